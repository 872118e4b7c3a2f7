/- Contracts of the functions that the law reaches, and the plain law. -/
import Derived.Test.YtpcifklfjeiklaaGreatFunc
set_option linter.unusedVariables false
set_option linter.unusedSimpArgs false
set_option linter.unusedSectionVars false
namespace Go.AM
open Go Go.Proofs
noncomputable section
def clos12 (p : T16.T) : List (RTy.fn).T := [(Fn.func 34, [Value.agg (vals T16 p).toArray], []), (Fn.func 35, [Value.agg (vals T16 p).toArray], []), (Fn.func 36, [Value.agg (vals T16 p).toArray], []), (Fn.func 37, [Value.agg (vals T16 p).toArray], []), (Fn.func 38, [Value.agg (vals T16 p).toArray], []), (Fn.func 39, [Value.agg (vals T16 p).toArray], [])]
abbrev R_u88 : Type := List (I).T × Int
def res_u88 (r : R_u88) : AV := .tup [.r (.ro I r.1), .r (.v (.int .i64 r.2))]
def bo_u88 (o_ : T13.T) (f_ : T8.T) (r : R_u88) : List (Nat × Blk) := []
def args_u88 (o_ : T13.T) (f_ : T8.T) : List AV := [.agg (rvs (enc T13 o_)), .agg (rvs (enc T8 f_))]
def bin_u88 (o_ : T13.T) (f_ : T8.T) : List Blk := []
abbrev C_u88 (o_ : T13.T) (f_ : T8.T) (r : R_u88) : Prop := CC Tryz.prog 12 (args_u88 o_ f_) (bin_u88 o_ f_) (res_u88 r) (bo_u88 o_ f_ r)
def st_u88_10007 (y0 : List (I).T) (y1 : T16.T) : St := ⟨mkS 47 [(8, .own 1000000 0), (31, .own 1000001 0), (32, .r (.v (.int .i64 6))), (33, .r (.v (.int .i64 0)))], [(1000000, 0, .row 3 I y0), (1000001, 0, .row 29 .fn (clos12 y1))]⟩
def st_u88_20007 (y0 : List (I).T) (y1 : T16.T) : St := ⟨mkS 47 [(8, .own 1000000 0), (31, .own 1000001 0), (32, .r (.v (.int .i64 6))), (33, .r (.v (.int .i64 1)))], [(1000000, 0, .row 3 I y0), (1000001, 0, .row 29 .fn (clos12 y1))]⟩
def st_u88_30007 (y0 : List (I).T) (y1 : T16.T) : St := ⟨mkS 47 [(8, .own 1000000 0), (31, .own 1000001 0), (32, .r (.v (.int .i64 6))), (33, .r (.v (.int .i64 2)))], [(1000000, 0, .row 3 I y0), (1000001, 0, .row 29 .fn (clos12 y1))]⟩
def st_u88_40007 (y0 : List (I).T) (y1 : T16.T) : St := ⟨mkS 47 [(8, .own 1000000 0), (31, .own 1000001 0), (32, .r (.v (.int .i64 6))), (33, .r (.v (.int .i64 3)))], [(1000000, 0, .row 3 I y0), (1000001, 0, .row 29 .fn (clos12 y1))]⟩
def st_u88_50007 (y0 : List (I).T) (y1 : T16.T) : St := ⟨mkS 47 [(8, .own 1000000 0), (31, .own 1000001 0), (32, .r (.v (.int .i64 6))), (33, .r (.v (.int .i64 4)))], [(1000000, 0, .row 3 I y0), (1000001, 0, .row 29 .fn (clos12 y1))]⟩
def st_u88_60007 (y0 : List (I).T) (y1 : T16.T) : St := ⟨mkS 47 [(8, .own 1000000 0), (31, .own 1000001 0), (32, .r (.v (.int .i64 6))), (33, .r (.v (.int .i64 5)))], [(1000000, 0, .row 3 I y0), (1000001, 0, .row 29 .fn (clos12 y1))]⟩
def st_u88_70007 (y0 : List (I).T) (y1 : T16.T) : St := ⟨mkS 47 [(8, .own 1000000 0), (31, .own 1000001 0), (32, .r (.v (.int .i64 6))), (33, .r (.v (.int .i64 6)))], [(1000000, 0, .row 3 I y0), (1000001, 0, .row 29 .fn (clos12 y1))]⟩
mutual
def f_u88_10007 (k : Nat) : Nat → List (I).T → T16.T → Option R_u88
  | 0, _, _ => none
  | j + 1, y0, y1 =>
  if ((0 : Int) ≤ (0 : Int)) ∧ ((0 : Int) < (↑ (clos12 y1).length : Int)) then
  if ((f_u94 k y1).isSome = true) then
  bif (v_u94 k y1) then
  if ((y0.length + [IntKind.i64.wrap ((1 : Int) + (0 : Int))].length) * (8 : Nat) ≤ (140737488355328 : Nat)) then
  f_u88_20007 k j ((y0 ++ [IntKind.i64.wrap (1 + 0)])) y1
  else none
  else
  f_u88_20007 k j y0 y1
  else none
  else none
def f_u88_20007 (k : Nat) : Nat → List (I).T → T16.T → Option R_u88
  | 0, _, _ => none
  | j + 1, y0, y1 =>
  if ((0 : Int) ≤ (1 : Int)) ∧ ((1 : Int) < (↑ (clos12 y1).length : Int)) then
  if ((f_u96 k y1).isSome = true) then
  bif (v_u96 k y1) then
  if ((y0.length + [IntKind.i64.wrap ((1 : Int) + (1 : Int))].length) * (8 : Nat) ≤ (140737488355328 : Nat)) then
  f_u88_30007 k j ((y0 ++ [IntKind.i64.wrap (1 + 1)])) y1
  else none
  else
  f_u88_30007 k j y0 y1
  else none
  else none
def f_u88_30007 (k : Nat) : Nat → List (I).T → T16.T → Option R_u88
  | 0, _, _ => none
  | j + 1, y0, y1 =>
  if ((0 : Int) ≤ (2 : Int)) ∧ ((2 : Int) < (↑ (clos12 y1).length : Int)) then
  if ((f_u98 k y1).isSome = true) then
  bif (v_u98 k y1) then
  if ((y0.length + [IntKind.i64.wrap ((1 : Int) + (2 : Int))].length) * (8 : Nat) ≤ (140737488355328 : Nat)) then
  f_u88_40007 k j ((y0 ++ [IntKind.i64.wrap (1 + 2)])) y1
  else none
  else
  f_u88_40007 k j y0 y1
  else none
  else none
def f_u88_40007 (k : Nat) : Nat → List (I).T → T16.T → Option R_u88
  | 0, _, _ => none
  | j + 1, y0, y1 =>
  if ((0 : Int) ≤ (3 : Int)) ∧ ((3 : Int) < (↑ (clos12 y1).length : Int)) then
  if ((f_u93 k y1).isSome = true) then
  bif (v_u93 k y1) then
  if ((y0.length + [IntKind.i64.wrap ((1 : Int) + (3 : Int))].length) * (8 : Nat) ≤ (140737488355328 : Nat)) then
  f_u88_50007 k j ((y0 ++ [IntKind.i64.wrap (1 + 3)])) y1
  else none
  else
  f_u88_50007 k j y0 y1
  else none
  else none
def f_u88_50007 (k : Nat) : Nat → List (I).T → T16.T → Option R_u88
  | 0, _, _ => none
  | j + 1, y0, y1 =>
  if ((0 : Int) ≤ (4 : Int)) ∧ ((4 : Int) < (↑ (clos12 y1).length : Int)) then
  if ((f_u97 k y1).isSome = true) then
  bif (v_u97 k y1) then
  if ((y0.length + [IntKind.i64.wrap ((1 : Int) + (4 : Int))].length) * (8 : Nat) ≤ (140737488355328 : Nat)) then
  f_u88_60007 k j ((y0 ++ [IntKind.i64.wrap (1 + 4)])) y1
  else none
  else
  f_u88_60007 k j y0 y1
  else none
  else none
def f_u88_60007 (k : Nat) : Nat → List (I).T → T16.T → Option R_u88
  | 0, _, _ => none
  | j + 1, y0, y1 =>
  if ((0 : Int) ≤ (5 : Int)) ∧ ((5 : Int) < (↑ (clos12 y1).length : Int)) then
  if ((f_u95 k y1).isSome = true) then
  bif (v_u95 k y1) then
  if ((y0.length + [IntKind.i64.wrap ((1 : Int) + (5 : Int))].length) * (8 : Nat) ≤ (140737488355328 : Nat)) then
  f_u88_70007 k j ((y0 ++ [IntKind.i64.wrap (1 + 5)])) y1
  else none
  else
  f_u88_70007 k j y0 y1
  else none
  else none
def f_u88_70007 (k : Nat) : Nat → List (I).T → T16.T → Option R_u88
  | 0, _, _ => none
  | j + 1, y0, y1 =>
  some ((y0, 0))
end
def f_u88 (k : Nat) (o_ : T13.T) (f_ : T8.T) : Option R_u88 :=
  if ((f_u34 k o_).isSome = true) then
  bif (v_u34 k o_ != (0 : Int)) then
  some (([], v_u34 k o_))
  else
  f_u88_10007 k k ([]) ((f_, o_))
  else none
def v_u88 (k : Nat) (o_ : T13.T) (f_ : T8.T) : R_u88 := (f_u88 k o_ f_).getD ([], 0)
def ke_u88 (k : Nat) : Ke := (12, fun xs => match xs with
  | [_, _] => some [false, false]
  | _ => none, fun xs bs => match xs, bs with
  | [.agg qo_, .agg qf_], [] => (decS [] T13 qo_).bind fun o_ => (decS [] T8 qf_).bind fun f_ => some (.one (res_u88 (v_u88 k o_ f_), bo_u88 o_ f_ (v_u88 k o_ f_)))
  | _, _ => none)
def K_u88 (k : Nat) : Calld := mkK [ke_u34 k, ke_u94 k, ke_u96 k, ke_u98 k, ke_u93 k, ke_u97 k, ke_u95 k]
def cs_u88 : List (Nat × List Cmd) := [(7, [.key 33, .row 8 3 I, .autoB [8, 31, 32, 33] false []])]
abbrev E_u88 (o_ : T13.T) (f_ : T8.T) (todo : List Item) (st : St) (o : Option R_u88) : Prop := ∀ r, o = some r → Ev Tryz.prog Tryz.f12 0 todo st (res_u88 r) (bo_u88 o_ f_ r)
theorem ev_u88 (k : Nat) (o_ : T13.T) (f_ : T8.T) : ∀ j, (∀ (y0 : List (I).T) (y1 : T16.T), E_u88 o_ f_ (placeAt Tryz.f12 7) (st_u88_10007 y0 y1) (f_u88_10007 k j y0 y1)) ∧ (∀ (y0 : List (I).T) (y1 : T16.T), E_u88 o_ f_ (placeAt Tryz.f12 7) (st_u88_20007 y0 y1) (f_u88_20007 k j y0 y1)) ∧ (∀ (y0 : List (I).T) (y1 : T16.T), E_u88 o_ f_ (placeAt Tryz.f12 7) (st_u88_30007 y0 y1) (f_u88_30007 k j y0 y1)) ∧ (∀ (y0 : List (I).T) (y1 : T16.T), E_u88 o_ f_ (placeAt Tryz.f12 7) (st_u88_40007 y0 y1) (f_u88_40007 k j y0 y1)) ∧ (∀ (y0 : List (I).T) (y1 : T16.T), E_u88 o_ f_ (placeAt Tryz.f12 7) (st_u88_50007 y0 y1) (f_u88_50007 k j y0 y1)) ∧ (∀ (y0 : List (I).T) (y1 : T16.T), E_u88 o_ f_ (placeAt Tryz.f12 7) (st_u88_60007 y0 y1) (f_u88_60007 k j y0 y1)) ∧ (∀ (y0 : List (I).T) (y1 : T16.T), E_u88 o_ f_ (placeAt Tryz.f12 7) (st_u88_70007 y0 y1) (f_u88_70007 k j y0 y1))
  | 0 => ⟨fun _ _ _ h => (nomatch h), fun _ _ _ h => (nomatch h), fun _ _ _ h => (nomatch h), fun _ _ _ h => (nomatch h), fun _ _ _ h => (nomatch h), fun _ _ _ h => (nomatch h), fun _ _ _ h => (nomatch h)⟩
  | j + 1 => by
    have ih := @ev_u88 k o_ f_ j
    refine ⟨?_, ?_, ?_, ?_, ?_, ?_, ?_⟩
    · intro y0 y1 r h
      rw [f_u88_10007] at h
      exact go (K_u88 k) [] cs_u88 [.frz 4 false (RTy.list I), .autoB [4, 5] true []] (gU1 h (.leaf (.tup [.r (.ro I y0), .r (.v (.int .i64 0))]) []) fun h => gN2 h fun h => gN1 h (fun q => cc_u94 q) fun h => gT h (fun c h => gN1 h id fun h => gC h 20007 (ih.2.1 _ _ _)) fun c h => gC h 20007 (ih.2.1 _ _ _)) (by kernel_rfl)
    · intro y0 y1 r h
      rw [f_u88_20007] at h
      exact go (K_u88 k) [] cs_u88 [.frz 4 false (RTy.list I), .autoB [4, 5] true []] (gU1 h (.leaf (.tup [.r (.ro I y0), .r (.v (.int .i64 0))]) []) fun h => gN2 h fun h => gN1 h (fun q => cc_u96 q) fun h => gT h (fun c h => gN1 h id fun h => gC h 30007 (ih.2.2.1 _ _ _)) fun c h => gC h 30007 (ih.2.2.1 _ _ _)) (by kernel_rfl)
    · intro y0 y1 r h
      rw [f_u88_30007] at h
      exact go (K_u88 k) [] cs_u88 [.frz 4 false (RTy.list I), .autoB [4, 5] true []] (gU1 h (.leaf (.tup [.r (.ro I y0), .r (.v (.int .i64 0))]) []) fun h => gN2 h fun h => gN1 h (fun q => cc_u98 q) fun h => gT h (fun c h => gN1 h id fun h => gC h 40007 (ih.2.2.2.1 _ _ _)) fun c h => gC h 40007 (ih.2.2.2.1 _ _ _)) (by kernel_rfl)
    · intro y0 y1 r h
      rw [f_u88_40007] at h
      exact go (K_u88 k) [] cs_u88 [.frz 4 false (RTy.list I), .autoB [4, 5] true []] (gU1 h (.leaf (.tup [.r (.ro I y0), .r (.v (.int .i64 0))]) []) fun h => gN2 h fun h => gN1 h (fun q => cc_u93 q) fun h => gT h (fun c h => gN1 h id fun h => gC h 50007 (ih.2.2.2.2.1 _ _ _)) fun c h => gC h 50007 (ih.2.2.2.2.1 _ _ _)) (by kernel_rfl)
    · intro y0 y1 r h
      rw [f_u88_50007] at h
      exact go (K_u88 k) [] cs_u88 [.frz 4 false (RTy.list I), .autoB [4, 5] true []] (gU1 h (.leaf (.tup [.r (.ro I y0), .r (.v (.int .i64 0))]) []) fun h => gN2 h fun h => gN1 h (fun q => cc_u97 q) fun h => gT h (fun c h => gN1 h id fun h => gC h 60007 (ih.2.2.2.2.2.1 _ _ _)) fun c h => gC h 60007 (ih.2.2.2.2.2.1 _ _ _)) (by kernel_rfl)
    · intro y0 y1 r h
      rw [f_u88_60007] at h
      exact go (K_u88 k) [] cs_u88 [.frz 4 false (RTy.list I), .autoB [4, 5] true []] (gU1 h (.leaf (.tup [.r (.ro I y0), .r (.v (.int .i64 0))]) []) fun h => gN2 h fun h => gN1 h (fun q => cc_u95 q) fun h => gT h (fun c h => gN1 h id fun h => gC h 70007 (ih.2.2.2.2.2.2 _ _ _)) fun c h => gC h 70007 (ih.2.2.2.2.2.2 _ _ _)) (by kernel_rfl)
    · intro y0 y1 r h
      rw [f_u88_70007] at h
      exact go (K_u88 k) [] cs_u88 [.frz 4 false (RTy.list I), .autoB [4, 5] true []] (gU2 h (.need [(0 : Int) ≤ (6 : Int), (6 : Int) < (↑ (clos12 y1).length : Int)] (.stuck 2001)) fun h => gL h) (by kernel_rfl)
theorem of_u88 (k : Nat) (o_ : T13.T) (f_ : T8.T) (r : R_u88) (h : f_u88 k o_ f_ = some r) : C_u88 o_ f_ r := by
  refine CC.of (fn := Tryz.f12) (by kernel_rfl) (by kernel_rfl) (by kernel_rfl) (by kernel_rfl) ?_
  unfold f_u88 at h
  exact go (K_u88 k) [] cs_u88 [.frz 4 false (RTy.list I), .autoB [4, 5] true []] (gN1 h (fun q => cc_u34 q) fun h => gT h (fun c h => gL h) fun c h => gC h 10007 ((ev_u88 k o_ f_ k).1 _ _ _)) (by kernel_rfl)
theorem cc_u88 {k : Nat} {o_ : T13.T} {f_ : T8.T} (h : (f_u88 k o_ f_).isSome = true) : C_u88 o_ f_ (v_u88 k o_ f_) := ccG (Φ := C_u88 o_ f_) h (of_u88 k o_ f_)
abbrev R_u38 : Type := T13.T
def res_u38 (r : R_u38) : AV := .agg (rvs (enc T13 r))
def bo_u38  (r : R_u38) : List (Nat × Blk) := []
def args_u38  : List AV := []
def bin_u38  : List Blk := []
abbrev C_u38  (r : R_u38) : Prop := CC Tryz.prog 13 (args_u38 ) (bin_u38 ) (res_u38 r) (bo_u38  r)
def f_u38 (k : Nat)  : Option R_u38 :=
  some ((1, (0, (200, (100, (120, (20, (1, (0, (0, (0, (5, 0))))))))))))
def v_u38 (k : Nat)  : R_u38 := (f_u38 k ).getD (T13).dflt
def ke_u38 (k : Nat) : Ke := (13, fun xs => match xs with
  | [] => some []
  | _ => none, fun xs bs => match xs, bs with
  | [], [] => some (.one (res_u38 (v_u38 k ), bo_u38  (v_u38 k )))
  | _, _ => none)
theorem of_u38 (k : Nat)  (r : R_u38) (h : f_u38 k  = some r) : C_u38  r := by
  refine CC.of (fn := Tryz.f13) (by kernel_rfl) (by kernel_rfl) (by kernel_rfl) (by kernel_rfl) ?_
  unfold f_u38 at h
  exact go (mkK []) [] [] [.autoB [0] true []] (gL h) (by kernel_rfl)
theorem cc_u38 {k : Nat}  (h : (f_u38 k ).isSome = true) : C_u38  (v_u38 k ) := ccG (Φ := C_u38 ) h (of_u38 k )
abbrev R_u99 : Type := Int
def res_u99 (r : R_u99) : AV := .r (.v (.int .i64 r))
def bo_u99 (l_ : List (T14).T) (r : R_u99) : List (Nat × Blk) := []
def args_u99 (l_ : List (T14).T) : List AV := [.r (.ro T14 l_)]
def bin_u99 (l_ : List (T14).T) : List Blk := []
abbrev C_u99 (l_ : List (T14).T) (r : R_u99) : Prop := CC Tryz.prog 40 (args_u99 l_) (bin_u99 l_) (res_u99 r) (bo_u99 l_ r)
def st_u99_4 (y0 : List (T14).T) (y1 : Int) (y2 : Int) : St := ⟨mkS 42 [(8, .r (.ro T14 y0)), (9, .r (.v (.int .i64 y1))), (10, .r (.v (.int .i64 y2)))], []⟩
def f_u99_4 (k : Nat) : Nat → List (T14).T → Int → Int → Option R_u99
  | 0, _, _, _ => none
  | j + 1, y0, y1, y2 =>
  bif (decide (y2 < y1)) then
  if (0 ≤ y2) ∧ (y2 < (↑y0.length : Int)) then
  bif (decide ((y0.getD y2.toNat T14.dflt).1 < (1 : Int)) || decide ((y0.getD y2.toNat T14.dflt).1 > (1000000 : Int))) then
  some 1
  else
  bif (decide ((y0.getD y2.toNat T14.dflt).2.1 < (1 : Int)) || decide ((y0.getD y2.toNat T14.dflt).2.1 > (6 : Int))) then
  some 17
  else
  bif (decide ((y0.getD y2.toNat T14.dflt).2.2 < (0 : Int)) || decide ((y0.getD y2.toNat T14.dflt).2.2 > (2147483647 : Int))) then
  some 1
  else
  f_u99_4 k j y0 y1 ((IntKind.i64.wrap (y2 + 1)))
  else none
  else
  some 0
def f_u99 (k : Nat) (l_ : List (T14).T) : Option R_u99 :=
  bif (decide ((↑l_.length : Int) > (512 : Int))) then
  some 8
  else
  f_u99_4 k k l_ ((↑l_.length : Int)) 0
def v_u99 (k : Nat) (l_ : List (T14).T) : R_u99 := (f_u99 k l_).getD 0
def ke_u99 (k : Nat) : Ke := (40, fun xs => match xs with
  | [_] => some [false]
  | _ => none, fun xs bs => match xs, bs with
  | [.r (.ro tl__ ql_)], [] => (castL tl__ T14 ql_).bind fun l_ => some (.one (res_u99 (v_u99 k l_), bo_u99 l_ (v_u99 k l_)))
  | _, _ => none)
def cs_u99 : List (Nat × List Cmd) := [(4, [.autoB [8, 9, 10] false []])]
abbrev E_u99 (l_ : List (T14).T) (todo : List Item) (st : St) (o : Option R_u99) : Prop := ∀ r, o = some r → Ev Tryz.prog Tryz.f40 0 todo st (res_u99 r) (bo_u99 l_ r)
theorem ev_u99 (k : Nat) (l_ : List (T14).T) : ∀ j, (∀ (y0 : List (T14).T) (y1 : Int) (y2 : Int), E_u99 l_ (placeAt Tryz.f40 4) (st_u99_4 y0 y1 y2) (f_u99_4 k j y0 y1 y2))
  | 0 => fun _ _ _ _ h => (nomatch h)
  | j + 1 => by
    have ih := @ev_u99 k l_ j
    · intro y0 y1 y2 r h
      rw [f_u99_4] at h
      exact go (mkK []) [] cs_u99 [.autoB [2] true []] (gT h (fun c h => gN2 h fun h => gT h (fun c h => gL h) fun c h => gT h (fun c h => gL h) fun c h => gT h (fun c h => gL h) fun c h => gC h 4 (ih _ _ _ _)) fun c h => gL h) (by kernel_rfl)
theorem of_u99 (k : Nat) (l_ : List (T14).T) (r : R_u99) (h : f_u99 k l_ = some r) : C_u99 l_ r := by
  refine CC.of (fn := Tryz.f40) (by kernel_rfl) (by kernel_rfl) (by kernel_rfl) (by kernel_rfl) ?_
  unfold f_u99 at h
  exact go (mkK []) [] cs_u99 [.autoB [2] true []] (gT h (fun c h => gL h) fun c h => gC h 4 ((ev_u99 k l_ k) _ _ _ _)) (by kernel_rfl)
theorem cc_u99 {k : Nat} {l_ : List (T14).T} (h : (f_u99 k l_).isSome = true) : C_u99 l_ (v_u99 k l_) := ccG (Φ := C_u99 l_) h (of_u99 k l_)
abbrev R_u89 : Type := List (I).T × Int
def res_u89 (r : R_u89) : AV := .tup [.r (.ro I r.1), .r (.v (.int .i64 r.2))]
def bo_u89 (o_ : T13.T) (f_ : T8.T) (roll_ : Int) (l_ : List (T14).T) (r : R_u89) : List (Nat × Blk) := []
def args_u89 (o_ : T13.T) (f_ : T8.T) (roll_ : Int) (l_ : List (T14).T) : List AV := [.agg (rvs (enc T13 o_)), .agg (rvs (enc T8 f_)), .r (.v (.int .i64 roll_)), .r (.ro T14 l_)]
def bin_u89 (o_ : T13.T) (f_ : T8.T) (roll_ : Int) (l_ : List (T14).T) : List Blk := []
abbrev C_u89 (o_ : T13.T) (f_ : T8.T) (roll_ : Int) (l_ : List (T14).T) (r : R_u89) : Prop := CC Tryz.prog 14 (args_u89 o_ f_ roll_ l_) (bin_u89 o_ f_ roll_ l_) (res_u89 r) (bo_u89 o_ f_ roll_ l_ r)
def st_u89_9 (y0 : Int) (y1 : List (I).T) (y2 : List (T14).T) (y3 : Int) (y4 : Int) (y5 : List ((I).T × (RTy.bool).T)) : St := ⟨mkS 64 [(2, .r (.v (.int .i64 y0))), (10, .r (.ro I y1)), (13, .own 1000000 0), (34, .r (.ro T14 y2)), (35, .r (.v (.int .i64 y3))), (36, .r (.v (.int .i64 y4)))], [(1000000, 0, .map false I RTy.bool y5)]⟩
def st_u89_16 (y0 : List (I).T) (y1 : Int) (y2 : Int) (y3 : List ((I).T × (RTy.bool).T)) (y4 : List (I).T) : St := ⟨mkS 64 [(13, .own 1000000 0), (16, .own 1000001 0), (48, .r (.ro I y0)), (49, .r (.v (.int .i64 y1))), (50, .r (.v (.int .i64 y2)))], [(1000000, 0, .map false I RTy.bool y3), (1000001, 0, .row 3 I y4)]⟩
mutual
def f_u89_9 (k : Nat) : Nat → Int → List (I).T → List (T14).T → Int → Int → (List ((I).T × (RTy.bool).T)) → Option R_u89
  | 0, _, _, _, _, _, _ => none
  | j + 1, y0, y1, y2, y3, y4, y5 =>
  bif (decide (y4 < y3)) then
  if (0 ≤ y4) ∧ (y4 < (↑y2.length : Int)) then
  bif ((y2.getD y4.toNat T14.dflt).1 == y0) then
  f_u89_9 k j y0 y1 y2 y3 ((IntKind.i64.wrap (y4 + 1))) ((mset I (y2.getD y4.toNat T14.dflt).2.1 true y5))
  else
  f_u89_9 k j y0 y1 y2 y3 ((IntKind.i64.wrap (y4 + 1))) y5
  else none
  else
  f_u89_16 k j y1 ((↑y1.length : Int)) 0 y5 ([])
def f_u89_16 (k : Nat) : Nat → List (I).T → Int → Int → (List ((I).T × (RTy.bool).T)) → List (I).T → Option R_u89
  | 0, _, _, _, _, _ => none
  | j + 1, y0, y1, y2, y3, y4 =>
  bif (decide (y2 < y1)) then
  if (0 ≤ y2) ∧ (y2 < (↑y0.length : Int)) then
  bif (! (mget I (y0.getD y2.toNat I.dflt) y3).getD false) then
  if ((y4.length + [y0.getD y2.toNat I.dflt].length) * (8 : Nat) ≤ (140737488355328 : Nat)) then
  f_u89_16 k j y0 y1 ((IntKind.i64.wrap (y2 + 1))) y3 ((y4 ++ [y0.getD y2.toNat I.dflt]))
  else none
  else
  f_u89_16 k j y0 y1 ((IntKind.i64.wrap (y2 + 1))) y3 y4
  else none
  else
  some ((y4, 0))
end
def f_u89 (k : Nat) (o_ : T13.T) (f_ : T8.T) (roll_ : Int) (l_ : List (T14).T) : Option R_u89 :=
  if ((f_u88 k o_ f_).isSome = true) then
  bif ((v_u88 k o_ f_).2 != (0 : Int)) then
  some (([], (v_u88 k o_ f_).2))
  else
  if ((f_u99 k l_).isSome = true) then
  bif (v_u99 k l_ != (0 : Int)) then
  some (([], v_u99 k l_))
  else
  f_u89_9 k k roll_ ((v_u88 k o_ f_).1) l_ ((↑l_.length : Int)) 0 ([])
  else none
  else none
def v_u89 (k : Nat) (o_ : T13.T) (f_ : T8.T) (roll_ : Int) (l_ : List (T14).T) : R_u89 := (f_u89 k o_ f_ roll_ l_).getD ([], 0)
def ke_u89 (k : Nat) : Ke := (14, fun xs => match xs with
  | [_, _, _, _] => some [false, false, false, false]
  | _ => none, fun xs bs => match xs, bs with
  | [.agg qo_, .agg qf_, .r (.v (.int .i64 roll_)), .r (.ro tl__ ql_)], [] => (decS [] T13 qo_).bind fun o_ => (decS [] T8 qf_).bind fun f_ => (castL tl__ T14 ql_).bind fun l_ => some (.one (res_u89 (v_u89 k o_ f_ roll_ l_), bo_u89 o_ f_ roll_ l_ (v_u89 k o_ f_ roll_ l_)))
  | _, _ => none)
def cs_u89 : List (Nat × List Cmd) := [(9, [.autoB [2, 10, 13, 34, 35, 36] false []]), (16, [.row 16 3 I, .autoB [13, 16, 48, 49, 50] false []])]
abbrev E_u89 (o_ : T13.T) (f_ : T8.T) (roll_ : Int) (l_ : List (T14).T) (todo : List Item) (st : St) (o : Option R_u89) : Prop := ∀ r, o = some r → Ev Tryz.prog Tryz.f14 0 todo st (res_u89 r) (bo_u89 o_ f_ roll_ l_ r)
theorem ev_u89 (k : Nat) (o_ : T13.T) (f_ : T8.T) (roll_ : Int) (l_ : List (T14).T) : ∀ j, (∀ (y0 : Int) (y1 : List (I).T) (y2 : List (T14).T) (y3 : Int) (y4 : Int) (y5 : List ((I).T × (RTy.bool).T)), E_u89 o_ f_ roll_ l_ (placeAt Tryz.f14 9) (st_u89_9 y0 y1 y2 y3 y4 y5) (f_u89_9 k j y0 y1 y2 y3 y4 y5)) ∧ (∀ (y0 : List (I).T) (y1 : Int) (y2 : Int) (y3 : List ((I).T × (RTy.bool).T)) (y4 : List (I).T), E_u89 o_ f_ roll_ l_ (placeAt Tryz.f14 16) (st_u89_16 y0 y1 y2 y3 y4) (f_u89_16 k j y0 y1 y2 y3 y4))
  | 0 => ⟨fun _ _ _ _ _ _ _ h => (nomatch h), fun _ _ _ _ _ _ h => (nomatch h)⟩
  | j + 1 => by
    have ih := @ev_u89 k o_ f_ roll_ l_ j
    refine ⟨?_, ?_⟩
    · intro y0 y1 y2 y3 y4 y5 r h
      rw [f_u89_9] at h
      exact go (mkK [ke_u88 k, ke_u99 k]) [] cs_u89 [.frz 8 false (RTy.list I), .autoB [8, 9] true []] (gT h (fun c h => gN2 h fun h => gT h (fun c h => gC h 9 (ih.1 _ _ _ _ _ _ _)) fun c h => gC h 9 (ih.1 _ _ _ _ _ _ _)) fun c h => gC h 16 (ih.2 _ _ _ _ _ _)) (by kernel_rfl)
    · intro y0 y1 y2 y3 y4 r h
      rw [f_u89_16] at h
      exact go (mkK [ke_u88 k, ke_u99 k]) [] cs_u89 [.frz 8 false (RTy.list I), .autoB [8, 9] true []] (gT h (fun c h => gN2 h fun h => gT h (fun c h => gN1 h id fun h => gC h 16 (ih.2 _ _ _ _ _ _)) fun c h => gC h 16 (ih.2 _ _ _ _ _ _)) fun c h => gL h) (by kernel_rfl)
theorem of_u89 (k : Nat) (o_ : T13.T) (f_ : T8.T) (roll_ : Int) (l_ : List (T14).T) (r : R_u89) (h : f_u89 k o_ f_ roll_ l_ = some r) : C_u89 o_ f_ roll_ l_ r := by
  refine CC.of (fn := Tryz.f14) (by kernel_rfl) (by kernel_rfl) (by kernel_rfl) (by kernel_rfl) ?_
  unfold f_u89 at h
  exact go (mkK [ke_u88 k, ke_u99 k]) [] cs_u89 [.frz 8 false (RTy.list I), .autoB [8, 9] true []] (gN1 h (fun q => cc_u88 q) fun h => gT h (fun c h => gL h) fun c h => gN1 h (fun q => cc_u99 q) fun h => gT h (fun c h => gL h) fun c h => gC h 9 ((ev_u89 k o_ f_ roll_ l_ k).1 _ _ _ _ _ _ _)) (by kernel_rfl)
theorem cc_u89 {k : Nat} {o_ : T13.T} {f_ : T8.T} {roll_ : Int} {l_ : List (T14).T} (h : (f_u89 k o_ f_ roll_ l_).isSome = true) : C_u89 o_ f_ roll_ l_ (v_u89 k o_ f_ roll_ l_) := ccG (Φ := C_u89 o_ f_ roll_ l_) h (of_u89 k o_ f_ roll_ l_)
abbrev R_u92 : Type := Int
def res_u92 (r : R_u92) : AV := .r (.v (.int .i64 r))
def bo_u92 (o_ : T13.T) (f_ : T8.T) (roll_ : Int) (l_ : List (T14).T) (r : R_u92) : List (Nat × Blk) := []
def args_u92 (o_ : T13.T) (f_ : T8.T) (roll_ : Int) (l_ : List (T14).T) : List AV := [.agg (rvs (enc T13 o_)), .agg (rvs (enc T8 f_)), .r (.v (.int .i64 roll_)), .r (.ro T14 l_)]
def bin_u92 (o_ : T13.T) (f_ : T8.T) (roll_ : Int) (l_ : List (T14).T) : List Blk := []
abbrev C_u92 (o_ : T13.T) (f_ : T8.T) (roll_ : Int) (l_ : List (T14).T) (r : R_u92) : Prop := CC Tryz.prog 15 (args_u92 o_ f_ roll_ l_) (bin_u92 o_ f_ roll_ l_) (res_u92 r) (bo_u92 o_ f_ roll_ l_ r)
def f_u92 (k : Nat) (o_ : T13.T) (f_ : T8.T) (roll_ : Int) (l_ : List (T14).T) : Option R_u92 :=
  if ((f_u89 k o_ f_ roll_ l_).isSome = true) then
  bif ((v_u89 k o_ f_ roll_ l_).2 != (0 : Int)) then
  some ((v_u89 k o_ f_ roll_ l_).2)
  else
  bif (decide ((↑ (v_u89 k o_ f_ roll_ l_).1.length : Int) > (0 : Int))) then
  some 31
  else
  some 0
  else none
def v_u92 (k : Nat) (o_ : T13.T) (f_ : T8.T) (roll_ : Int) (l_ : List (T14).T) : R_u92 := (f_u92 k o_ f_ roll_ l_).getD 0
def ke_u92 (k : Nat) : Ke := (15, fun xs => match xs with
  | [_, _, _, _] => some [false, false, false, false]
  | _ => none, fun xs bs => match xs, bs with
  | [.agg qo_, .agg qf_, .r (.v (.int .i64 roll_)), .r (.ro tl__ ql_)], [] => (decS [] T13 qo_).bind fun o_ => (decS [] T8 qf_).bind fun f_ => (castL tl__ T14 ql_).bind fun l_ => some (.one (res_u92 (v_u92 k o_ f_ roll_ l_), bo_u92 o_ f_ roll_ l_ (v_u92 k o_ f_ roll_ l_)))
  | _, _ => none)
theorem of_u92 (k : Nat) (o_ : T13.T) (f_ : T8.T) (roll_ : Int) (l_ : List (T14).T) (r : R_u92) (h : f_u92 k o_ f_ roll_ l_ = some r) : C_u92 o_ f_ roll_ l_ r := by
  refine CC.of (fn := Tryz.f15) (by kernel_rfl) (by kernel_rfl) (by kernel_rfl) (by kernel_rfl) ?_
  unfold f_u92 at h
  exact go (mkK [ke_u89 k]) [] [] [.autoB [8] true []] (gN1 h (fun q => cc_u89 q) fun h => gT h (fun c h => gL h) fun c h => gT h (fun c h => gL h) fun c h => gL h) (by kernel_rfl)
theorem cc_u92 {k : Nat} {o_ : T13.T} {f_ : T8.T} {roll_ : Int} {l_ : List (T14).T} (h : (f_u92 k o_ f_ roll_ l_).isSome = true) : C_u92 o_ f_ roll_ l_ (v_u92 k o_ f_ roll_ l_) := ccG (Φ := C_u92 o_ f_ roll_ l_) h (of_u92 k o_ f_ roll_ l_)
abbrev R_u36 : Type := Bool
def res_u36 (r : R_u36) : AV := .r (.v (.bool r))
def bo_u36  (r : R_u36) : List (Nat × Blk) := []
def args_u36  : List AV := []
def bin_u36  : List Blk := []
abbrev C_u36  (r : R_u36) : Prop := CC Tryz.prog 6 (args_u36 ) (bin_u36 ) (res_u36 r) (bo_u36  r)
def st_u36_4 (y0 : List (I).T) (y1 : Int) (y2 : List (T14).T) (y3 : T8.T) : St := ⟨mkS 59 [(1, .ptr 1000000 0 0), (2, .r (.ro I y0)), (3, .r (.v (.int .i64 y1))), (4, .r (.ro T14 y2))], [(1000000, 0, .var 31 (rvs (enc T8 y3)))]⟩
def f_u36_4 (k : Nat) : Nat → List (I).T → Int → List (T14).T → T8.T → Option R_u36
  | 0, _, _, _, _ => none
  | j + 1, y0, y1, y2, y3 =>
  if ((f_u38 k ).isSome = true) ∧ ((f_u89 k (v_u38 k) y3 2 y2).isSome = true) then
  bif (y1 == (0 : Int) && (v_u89 k (v_u38 k) y3 (2 : Int) y2).2 == (0 : Int) && (↑y0.length : Int) == (1 : Int) && y0.getD (Int.toNat (0 : Int)) I.dflt == (5 : Int) && (↑ (v_u89 k (v_u38 k) y3 (2 : Int) y2).1.length : Int) == (0 : Int)) then
  bif (true && v_u92 k (v_u38 k) y3 (2 : Int) y2 == (0 : Int)) then
  if ((y1 == (0 : Int) && (v_u89 k (v_u38 k) y3 (2 : Int) y2).2 == (0 : Int) && (↑y0.length : Int) == (1 : Int)) = true → (0 : Int) ≤ (0 : Int)) ∧ ((y1 == (0 : Int) && (v_u89 k (v_u38 k) y3 (2 : Int) y2).2 == (0 : Int) && (↑y0.length : Int) == (1 : Int)) = true → (0 : Int) < (↑y0.length : Int)) ∧ ((y1 == (0 : Int) && (v_u89 k (v_u38 k) y3 (2 : Int) y2).2 == (0 : Int) && (↑y0.length : Int) == (1 : Int) && y0.getD (Int.toNat (0 : Int)) I.dflt == (5 : Int) && (↑ (v_u89 k (v_u38 k) y3 (2 : Int) y2).1.length : Int) == (0 : Int)) = true) ∧ ((f_u38 k ).isSome = true) ∧ ((f_u92 k (v_u38 k) y3 2 y2).isSome = true) ∧ ((true && v_u92 k (v_u38 k) y3 (2 : Int) y2 == (0 : Int)) = true) ∧ ((f_u38 k ).isSome = true) ∧ ((f_u92 k (v_u38 k) y3 3 y2).isSome = true) then
  some (true && v_u92 k (v_u38 k) y3 3 y2 == 31)
  else none
  else
  if ((y1 == (0 : Int) && (v_u89 k (v_u38 k) y3 (2 : Int) y2).2 == (0 : Int) && (↑y0.length : Int) == (1 : Int)) = true → (0 : Int) ≤ (0 : Int)) ∧ ((y1 == (0 : Int) && (v_u89 k (v_u38 k) y3 (2 : Int) y2).2 == (0 : Int) && (↑y0.length : Int) == (1 : Int)) = true → (0 : Int) < (↑y0.length : Int)) ∧ ((y1 == (0 : Int) && (v_u89 k (v_u38 k) y3 (2 : Int) y2).2 == (0 : Int) && (↑y0.length : Int) == (1 : Int) && y0.getD (Int.toNat (0 : Int)) I.dflt == (5 : Int) && (↑ (v_u89 k (v_u38 k) y3 (2 : Int) y2).1.length : Int) == (0 : Int)) = true) ∧ ((f_u38 k ).isSome = true) ∧ ((f_u92 k (v_u38 k) y3 2 y2).isSome = true) ∧ ((true && v_u92 k (v_u38 k) y3 (2 : Int) y2 == (0 : Int)) = false) then
  some false
  else none
  else
  if ((y1 == (0 : Int) && (v_u89 k (v_u38 k) y3 (2 : Int) y2).2 == (0 : Int) && (↑y0.length : Int) == (1 : Int)) = true → (0 : Int) ≤ (0 : Int)) ∧ ((y1 == (0 : Int) && (v_u89 k (v_u38 k) y3 (2 : Int) y2).2 == (0 : Int) && (↑y0.length : Int) == (1 : Int)) = true → (0 : Int) < (↑y0.length : Int)) ∧ ((y1 == (0 : Int) && (v_u89 k (v_u38 k) y3 (2 : Int) y2).2 == (0 : Int) && (↑y0.length : Int) == (1 : Int) && y0.getD (Int.toNat (0 : Int)) I.dflt == (5 : Int) && (↑ (v_u89 k (v_u38 k) y3 (2 : Int) y2).1.length : Int) == (0 : Int)) = false) ∧ (false = false) then
  some false
  else none
  else none
def f_u36 (k : Nat)  : Option R_u36 :=
  if ((f_u38 k ).isSome = true) ∧ ((f_u88 k (v_u38 k) (0, true, 200, 101, 1, 0)).isSome = true) then
  f_u36_4 k k ((v_u88 k (v_u38 k) (0, true, 200, 101, 1, 0)).1) ((v_u88 k (v_u38 k) (0, true, 200, 101, 1, 0)).2) ([(2, 5, 0)]) ((0, (true, (200, (101, (1, 0))))))
  else none
def v_u36 (k : Nat)  : R_u36 := (f_u36 k ).getD false
def ke_u36 (k : Nat) : Ke := (6, fun xs => match xs with
  | [] => some []
  | _ => none, fun xs bs => match xs, bs with
  | [], [] => some (.one (res_u36 (v_u36 k ), bo_u36  (v_u36 k )))
  | _, _ => none)
def K_u36 (k : Nat) : Calld := mkK [ke_u88 k, ke_u38 k, ke_u89 k, ke_u92 k]
def cs_u36 : List (Nat × List Cmd) := [(4, [.frz 4 false (RTy.list T14), .autoB [1, 2, 3, 4] false []])]
abbrev E_u36 (todo : List Item) (st : St) (o : Option R_u36) : Prop := ∀ r, o = some r → Ev Tryz.prog Tryz.f6 0 todo st (res_u36 r) (bo_u36  r)
theorem ev_u36 (k : Nat) : ∀ j, (∀ (y0 : List (I).T) (y1 : Int) (y2 : List (T14).T) (y3 : T8.T), E_u36  (placeAt Tryz.f6 4) (st_u36_4 y0 y1 y2 y3) (f_u36_4 k j y0 y1 y2 y3))
  | 0 => fun _ _ _ _ _ h => (nomatch h)
  | j + 1 => by
    have ih := @ev_u36 k  j
    · intro y0 y1 y2 y3 r h
      rw [f_u36_4] at h
      exact go (K_u36 k) [4] cs_u36 [.autoB [0] true []] (gN h (fun q => conjC (cc_u38 q.1) (conjC (cc_u89 q.2) conj0)) fun h => gT h (fun c h => gT h (fun c h => gN h (fun q => conjC q.1 (conjC q.2.1 (conjC q.2.2.1 (conjC (cc_u38 q.2.2.2.1) (conjC (cc_u92 q.2.2.2.2.1) (conjC q.2.2.2.2.2.1 (conjC (cc_u38 q.2.2.2.2.2.2.1) (conjC (cc_u92 q.2.2.2.2.2.2.2) conj0)))))))) fun h => gL h) fun c h => gN h (fun q => conjC q.1 (conjC q.2.1 (conjC q.2.2.1 (conjC (cc_u38 q.2.2.2.1) (conjC (cc_u92 q.2.2.2.2.1) (conjC q.2.2.2.2.2 conj0)))))) fun h => gL h) fun c h => gU2 h (.need [(y1 == (0 : Int) && (v_u89 k (v_u38 k) y3 (2 : Int) y2).2 == (0 : Int) && (↑y0.length : Int) == (1 : Int)) = true → (0 : Int) ≤ (0 : Int), (y1 == (0 : Int) && (v_u89 k (v_u38 k) y3 (2 : Int) y2).2 == (0 : Int) && (↑y0.length : Int) == (1 : Int)) = true → (0 : Int) < (↑y0.length : Int), (y1 == (0 : Int) && (v_u89 k (v_u38 k) y3 (2 : Int) y2).2 == (0 : Int) && (↑y0.length : Int) == (1 : Int) && y0.getD (Int.toNat (0 : Int)) I.dflt == (5 : Int) && (↑ (v_u89 k (v_u38 k) y3 (2 : Int) y2).1.length : Int) == (0 : Int)) = false, false = true, CC Tryz.prog 13 (args_u38 ) (bin_u38 ) (res_u38 (v_u38 k )) (bo_u38  (v_u38 k )), CC Tryz.prog 15 (args_u92 (v_u38 k) y3 3 y2) (bin_u92 (v_u38 k) y3 3 y2) (res_u92 (v_u92 k (v_u38 k) y3 3 y2)) (bo_u92 (v_u38 k) y3 3 y2 (v_u92 k (v_u38 k) y3 3 y2))] (.leaf (.r (.v (.bool ((true && v_u92 k (v_u38 k) y3 3 y2 == 31))))) [])) fun h => gN h (fun q => conjC q.1 (conjC q.2.1 (conjC q.2.2.1 (conjC q.2.2.2 conj0)))) fun h => gL h) (by kernel_rfl)
theorem of_u36 (k : Nat)  (r : R_u36) (h : f_u36 k  = some r) : C_u36  r := by
  refine CC.of (fn := Tryz.f6) (by kernel_rfl) (by kernel_rfl) (by kernel_rfl) (by kernel_rfl) ?_
  unfold f_u36 at h
  exact go (K_u36 k) [4] cs_u36 [.autoB [0] true []] (gN h (fun q => conjC (cc_u38 q.1) (conjC (cc_u88 q.2) conj0)) fun h => gC h 4 ((ev_u36 k  k) _ _ _ _ _)) (by kernel_rfl)
theorem cc_u36 {k : Nat}  (h : (f_u36 k ).isSome = true) : C_u36  (v_u36 k ) := ccG (Φ := C_u36 ) h (of_u36 k )
abbrev R_u39 : Type := T10.T
def res_u39 (r : R_u39) : AV := .agg (rvs (enc T10 r))
def bo_u39 (x_ : T7.T) (r : R_u39) : List (Nat × Blk) := []
def args_u39 (x_ : T7.T) : List AV := [.agg (rvs (enc T7 x_))]
def bin_u39 (x_ : T7.T) : List Blk := []
abbrev C_u39 (x_ : T7.T) (r : R_u39) : Prop := CC Tryz.prog 8 (args_u39 x_) (bin_u39 x_) (res_u39 r) (bo_u39 x_ r)
def f_u39 (k : Nat) (x_ : T7.T) : Option R_u39 :=
  some ((x_.1, ((x_.2.1, x_.2.2.1), (x_.2.2.2.1, (x_.2.2.2.2.1, (x_.2.2.2.2.2.1, x_.2.2.2.2.2.2))))))
def v_u39 (k : Nat) (x_ : T7.T) : R_u39 := (f_u39 k x_).getD (T10).dflt
def ke_u39 (k : Nat) : Ke := (8, fun xs => match xs with
  | [_] => some [false]
  | _ => none, fun xs bs => match xs, bs with
  | [.agg qx_], [] => (decS [] T7 qx_).bind fun x_ => some (.one (res_u39 (v_u39 k x_), bo_u39 x_ (v_u39 k x_)))
  | _, _ => none)
theorem of_u39 (k : Nat) (x_ : T7.T) (r : R_u39) (h : f_u39 k x_ = some r) : C_u39 x_ r := by
  refine CC.of (fn := Tryz.f8) (by kernel_rfl) (by kernel_rfl) (by kernel_rfl) (by kernel_rfl) ?_
  unfold f_u39 at h
  exact go (mkK []) [] [] [.frz 2 true T10, .autoB [2] true []] (gL h) (by kernel_rfl)
theorem cc_u39 {k : Nat} {x_ : T7.T} (h : (f_u39 k x_).isSome = true) : C_u39 x_ (v_u39 k x_) := ccG (Φ := C_u39 x_) h (of_u39 k x_)
abbrev R_u40 : Type := T12.T
def res_u40 (r : R_u40) : AV := .agg (rvs (enc T12 r))
def bo_u40 (x_ : T7.T) (r : R_u40) : List (Nat × Blk) := []
def args_u40 (x_ : T7.T) : List AV := [.agg (rvs (enc T7 x_))]
def bin_u40 (x_ : T7.T) : List Blk := []
abbrev C_u40 (x_ : T7.T) (r : R_u40) : Prop := CC Tryz.prog 10 (args_u40 x_) (bin_u40 x_) (res_u40 r) (bo_u40 x_ r)
def f_u40 (k : Nat) (x_ : T7.T) : Option R_u40 :=
  some ((x_.1, ((x_.2.1, x_.2.2.1), (x_.2.2.2.1, (x_.2.2.2.2.1, (x_.2.2.2.2.2.1, x_.2.2.2.2.2.2))))))
def v_u40 (k : Nat) (x_ : T7.T) : R_u40 := (f_u40 k x_).getD (T12).dflt
def ke_u40 (k : Nat) : Ke := (10, fun xs => match xs with
  | [_] => some [false]
  | _ => none, fun xs bs => match xs, bs with
  | [.agg qx_], [] => (decS [] T7 qx_).bind fun x_ => some (.one (res_u40 (v_u40 k x_), bo_u40 x_ (v_u40 k x_)))
  | _, _ => none)
theorem of_u40 (k : Nat) (x_ : T7.T) (r : R_u40) (h : f_u40 k x_ = some r) : C_u40 x_ r := by
  refine CC.of (fn := Tryz.f10) (by kernel_rfl) (by kernel_rfl) (by kernel_rfl) (by kernel_rfl) ?_
  unfold f_u40 at h
  exact go (mkK []) [] [] [.frz 2 true T12, .autoB [2] true []] (gL h) (by kernel_rfl)
theorem cc_u40 {k : Nat} {x_ : T7.T} (h : (f_u40 k x_).isSome = true) : C_u40 x_ (v_u40 k x_) := ccG (Φ := C_u40 x_) h (of_u40 k x_)
abbrev R_u35 : Type := Bool
def res_u35 (r : R_u35) : AV := .r (.v (.bool r))
def bo_u35 (x_ : T7.T) (id_ : Int) (r : R_u35) : List (Nat × Blk) := []
def args_u35 (x_ : T7.T) (id_ : Int) : List AV := [.agg (rvs (enc T7 x_)), .r (.v (.int .i64 id_))]
def bin_u35 (x_ : T7.T) (id_ : Int) : List Blk := []
abbrev C_u35 (x_ : T7.T) (id_ : Int) (r : R_u35) : Prop := CC Tryz.prog 3 (args_u35 x_ id_) (bin_u35 x_ id_) (res_u35 r) (bo_u35 x_ id_ r)
def f_u35 (k : Nat) (x_ : T7.T) (id_ : Int) : Option R_u35 :=
  if ((f_u37 k x_).isSome = true) then
  bif (v_u37 k x_) then
  if ((f_u36 k ).isSome = true) then
  some (v_u36 k)
  else none
  else
  if ((f_u39 k x_).isSome = true) ∧ ((f_u87 k (v_u39 k x_) id_).isSome = true) then
  if ((f_u40 k x_).isSome = true) ∧ ((f_u82 k (v_u40 k x_) id_).isSome = true) then
  bif (eqT T8 (v_u87 k (v_u39 k x_) id_).1 (v_u82 k (v_u40 k x_) id_).1 && (v_u87 k (v_u39 k x_) id_).2 == (v_u82 k (v_u40 k x_) id_).2) then
  if ((eqT T8 (v_u87 k (v_u39 k x_) id_).1 (v_u82 k (v_u40 k x_) id_).1 && (v_u87 k (v_u39 k x_) id_).2 == (v_u82 k (v_u40 k x_) id_).2) = true) ∧ ((f_u36 k ).isSome = true) then
  some (true && v_u36 k)
  else none
  else
  if ((eqT T8 (v_u87 k (v_u39 k x_) id_).1 (v_u82 k (v_u40 k x_) id_).1 && (v_u87 k (v_u39 k x_) id_).2 == (v_u82 k (v_u40 k x_) id_).2) = false) then
  some false
  else none
  else none
  else none
  else none
theorem of_u35 (k : Nat) (x_ : T7.T) (id_ : Int) (r : R_u35) (h : f_u35 k x_ id_ = some r) : C_u35 x_ id_ r := by
  refine CC.of (fn := Tryz.f3) (by kernel_rfl) (by kernel_rfl) (by kernel_rfl) (by kernel_rfl) ?_
  unfold f_u35 at h
  exact go (mkK [ke_u37 k, ke_u36 k, ke_u87 k, ke_u39 k, ke_u82 k, ke_u40 k]) [] [] [.autoB [4] true []] (gN1 h (fun q => cc_u37 q) fun h => gT h (fun c h => gN1 h (fun q => cc_u36 q) fun h => gL h) fun c h => gN h (fun q => conjC (cc_u39 q.1) (conjC (cc_u87 q.2) conj0)) fun h => gN h (fun q => conjC (cc_u40 q.1) (conjC (cc_u82 q.2) conj0)) fun h => gT h (fun c h => gN h (fun q => conjC q.1 (conjC (cc_u36 q.2) conj0)) fun h => gL h) fun c h => gN1 h id fun h => gL h) (by kernel_rfl)
end
theorem gr_eq {p : List Sec} {x : Sec} {t : List Sec} (e : p = x :: t) : grS p = if allG x.2.2.2.1 t = true then x.2.2.2.1 else -1 := by
  subst e
  unfold grS
  rw [List.getD_cons_zero]
  show (if (x.2.2.2.1 == x.2.2.2.1 && allG x.2.2.2.1 t) = true then _ else _) = _
  rw [beq_self_eq_true, Bool.true_and]
theorem gr_same {g : Int} {p : List Sec} (hn : p ≠ []) (h : allG g p = true) : grS p = g := by
  cases p with
  | nil => exact absurd rfl hn
  | cons x t =>
    obtain ⟨h1, h2⟩ := Bool.and_eq_true_iff.1 (show (x.2.2.2.1 == g && allG g t) = true from h)
    have e : x.2.2.2.1 = g := by simpa using h1
    rw [gr_eq rfl, e, if_pos h2]
theorem gr_other {g : Int} {p : List Sec} (hn : p ≠ []) (h : allG g p = false) : grS p < 0 ∨ grS p ≠ g := by
  cases p with
  | nil => exact absurd rfl hn
  | cons x t =>
    rw [gr_eq rfl]
    by_cases e : allG x.2.2.2.1 t = true
    · rw [if_pos e]
      right
      intro he
      rw [he] at e
      have h : (x.2.2.2.1 == g && allG g t) = false := h
      rw [he, beq_self_eq_true, e] at h
      cases h
    · rw [if_neg e]; left; decide
def regT (R : List Ro) (W L : Int) (secs : List Sec) (sp : List Spt) (gr : List Grd) (core : Int) : T12.T := (R, (W, L), secs, sp, gr, core)
theorem finS_neg (R : List Ro) (W L : Int) (sp : List Spt) (gr : List Grd) (core id : Int) (c : Ch) {g : Int} (a : Bool) (h : g < 0) : finS R W L sp gr core id c g a = errF 22 := by
  unfold finS; rw [if_pos (.inl h)]
theorem fin_18 (k : Nat) (hk : 301000 ≤ k) (R : List Ro) (W L : Int) (secs : List Sec) (sp : List Spt) (gr : List Grd) (core id : Int) (spans : List Sp) (c : Ch) (hc : Chk c.2.2.2) (g : Int) (a : Bool) (f0 : Fac) (j i : Nat) (hi : spans.length ≤ i) :
    f_u82_18 k (j + 1) id spans g a (i : Int) (regT R W L secs sp gr core) f0 c = some (finS R W L sp gr core id c g a) := by
  rw [f_u82_18, decide_eq_false (by omega : ¬ (i : Int) < (spans.length : Int)), cond_false]
  unfold finS regT
  dsimp only
  by_cases h5 : g < 0 ∨ g ≥ (List.length gr : Int)
  · rw [if_pos h5, show (decide (g < 0) || decide (g ≥ (List.length gr : Int))) = true by rw [Bool.or_eq_true, decide_eq_true_iff, decide_eq_true_iff]; exact h5]; rfl
  · rw [if_neg h5, decide_eq_false (fun h => h5 (.inl h)), decide_eq_false (fun h => h5 (.inr h)), Bool.or_self, cond_false, ref42_Long_s k (by omega) _ hc, ref42_Long_v k (by omega) _ hc, ref37_Dia_s k (by omega), ref37_Dia_v k (by omega), if_pos ⟨rfl, by omega, by omega, rfl⟩, ref43_Worst_s k hk, ref43_Worst_v k hk, Option.isSome_some, if_pos rfl]
    dsimp only
    rw [show (List.getD gr g.toNat T6.dflt).2.2.2.2.2.1 = calS gr g from rfl]
    by_cases h6 : (diaS core (lenS c.2.2.2) (calS gr g)).2 = 0
    · rw [if_neg (fun h => h h6), show ((diaS core (lenS c.2.2.2) (calS gr g)).2 != 0) = false by rw [h6]; rfl, cond_false]
      by_cases h7 : (worstS R W L sp id).2 = 0
      · rw [if_neg (fun h => h h7), show ((worstS R W L sp id).2 != 0) = false by rw [h7]; rfl, cond_false]
      · rw [if_pos h7, bne_iff_ne.2 h7]; rfl
    · rw [if_pos h6, bne_iff_ne.2 h6]; rfl
section
variable (k : Nat) (hk : 301000 ≤ k) (R : List Ro) (W L : Int) (secs : List Sec) (hz : secE secs = 0) (sp : List Spt) (gr : List Grd) (core id : Int) (spans : List Sp) (hl : spans.length ≤ 256) (hs : ∀ s ∈ spans, 0 ≤ s.1 ∧ s.1 < s.2 ∧ s.2 ≤ 17179869184 ∧ s.2 ≤ endS secs) (c : Ch) (hc : Chk c.2.2.2) (f0 : Fac)
include hk hz hl hs hc
theorem GatherR_18 : ∀ (d i j : Nat) (g : Int) (a : Bool), i + d = spans.length → d < j → 0 < i → 0 ≤ g → f_u82_18 k j id spans g a (i : Int) (regT R W L secs sp gr core) f0 c = some (finS R W L sp gr core id c (papF g a false (flatP secs (spans.drop i))).1 (papF g a false (flatP secs (spans.drop i))).2) := by
  intro d
  induction d with
  | zero =>
    intro i j g a hi hj h0 hg
    obtain ⟨j, rfl⟩ : ∃ q, j = q + 1 := ⟨j - 1, by omega⟩
    rw [fin_18 k hk R W L secs sp gr core id spans c hc g a f0 j i (by omega), List.drop_of_length_le (by omega)]
    rfl
  | succ d ih =>
    intro i j g a hi hj h0 hg
    obtain ⟨j, rfl⟩ : ∃ q, j = q + 1 := ⟨j - 1, by omega⟩
    obtain ⟨s0, s1, s2, s3⟩ := hs (spans.getD i T15.dflt) (getD_mem' _ _ _ (by omega))
    have hne := prtL_ne hz s0 s1 s3
    have hgs : f_u63 k (regT R W L secs sp gr core).2.2.1 (spans.getD i T15.dflt) = _ := ref34_Grade_s k (by omega) hz s0 s1 s2 s3
    have hgv : v_u63 k (regT R W L secs sp gr core).2.2.1 (spans.getD i T15.dflt) = _ := ref34_Grade_v k (by omega) hz s0 s1 s2 s3
    rw [f_u82_18, decide_eq_true (by omega : (i : Int) < (spans.length : Int)), cond_true, Int.toNat_natCast, hgs, hgv, if_pos ⟨by omega, by omega, rfl⟩, wrapS i (by omega), drop_cons' spans i T15.dflt (by omega), flatP, decide_eq_true (by omega : (i : Int) > 0), Bool.true_and]
    dsimp only
    generalize prtL (spans.getD i T15.dflt) secs = P at *
    cases e : allG g P
    · rw [papF_not _ P a e, finS_neg _ _ _ _ _ _ _ _ _ (by decide : (-1 : Int) < 0)]
      have : (decide (grS P < 0) || grS P != g) = true := by
        rw [Bool.or_eq_true, decide_eq_true_iff, bne_iff_ne]; exact gr_other hne e
      rw [this]; rfl
    · rw [papF_all _ P a e, gr_same hne e, decide_eq_false (by omega : ¬ g < 0), bne_self_eq_false, Bool.or_self, cond_false]
      exact ih (i + 1) j g (a && allP P) (by omega) (by omega) (by omega) hg
theorem GatherR_0 (j : Nat) (hj : 300 < j) : f_u82_18 k j id spans (-1) true 0 (regT R W L secs sp gr core) f0 c = some (finS R W L sp gr core id c (papF (-1) true true (flatP secs spans)).1 (papF (-1) true true (flatP secs spans)).2) := by
  obtain ⟨j, rfl⟩ : ∃ q, j = q + 1 := ⟨j - 1, by omega⟩
  cases spans with
  | nil => exact fin_18 k hk R W L secs sp gr core id [] c hc (-1) true f0 j 0 (Nat.le_refl _)
  | cons s t =>
    have hl : t.length + 1 ≤ 256 := hl
    obtain ⟨s0, s1, s2, s3⟩ := hs s (by simp)
    have hne := prtL_ne hz s0 s1 s3
    have hgs : f_u63 k (regT R W L secs sp gr core).2.2.1 s = _ := ref34_Grade_s k (by omega) hz s0 s1 s2 s3
    have hgv : v_u63 k (regT R W L secs sp gr core).2.2.1 s = _ := ref34_Grade_v k (by omega) hz s0 s1 s2 s3
    have e0 : (s :: t).getD (Int.toNat 0) T15.dflt = s := rfl
    have hlen : ((s :: t).length : Int) = (t.length : Int) + 1 := by rw [List.length_cons]; omega
    rw [f_u82_18, decide_eq_true (by omega : (0 : Int) < ((s :: t).length : Int)), cond_true, e0, hgs, hgv, if_pos ⟨Int.le_refl 0, by omega, rfl⟩, flatP, decide_eq_false (by decide : ¬ (0 : Int) > 0), Bool.false_and, Bool.or_false]
    dsimp only
    have ih := GatherR_18 k hk R W L secs hz sp gr core id (s :: t) (by rw [List.length_cons]; exact hl) hs c hc f0 t.length 1 j
    rw [show IntKind.i64.wrap ((0 : Int) + 1) = ((1 : Nat) : Int) from rfl]
    obtain ⟨x, p, hp⟩ : ∃ x p, prtL s secs = x :: p := by
      cases h : prtL s secs with
      | nil => exact absurd h hne
      | cons x p => exact ⟨x, p, rfl⟩
    rw [hp, gr_eq rfl, List.cons_append, papF, Bool.not_true, Bool.false_and, cond_false]
    have hap : allP (x :: p) = (x.2.2.1 == 1 && allP p) := rfl
    cases e : allG x.2.2.2.1 p
    · rw [if_neg Bool.false_ne_true, papF_not _ p _ e, finS_neg _ _ _ _ _ _ _ _ _ (by decide : (-1 : Int) < 0)]; rfl
    · rw [if_pos rfl, papF_all _ p _ e]
      by_cases h : x.2.2.2.1 < 0
      · rw [decide_eq_true h, cond_true, finS_neg _ _ _ _ _ _ _ _ _ (papF_neg _ _ _ h)]; rfl
      · rw [decide_eq_false h, cond_false, hap, Bool.and_assoc]
        exact ih x.2.2.2.1 _ (by rw [List.length_cons]; omega) (by omega) (by decide) (by omega)
end
theorem ref55_Gather_s (k : Nat) (hk : 301000 ≤ k) (R : List Ro) (W L : Int) (secs : List Sec) (sp : List Spt) (gr : List Grd) (core id : Int) : f_u82 k (regT R W L secs sp gr core) id = some (gatherS R W L secs sp gr core id) := by
  unfold f_u82 gatherS
  have e1 : (regT R W L secs sp gr core).1 = R := rfl
  have e2 : (regT R W L secs sp gr core).2.1 = (W, L) := rfl
  have e3 : (regT R W L secs sp gr core).2.2.1 = secs := rfl
  rw [e1, e2, e3, ref42_Cut_s k hk, ref42_Cut_v k hk, Option.isSome_some, if_pos rfl]
  dsimp only
  by_cases h1 : (cutFull R W L id).2 = 0
  · obtain ⟨reg, ci⟩ := cut_in h1
    obtain ⟨cl, cs⟩ := cut_spans h1
    rw [show ((cutFull R W L id).2 != 0) = false by rw [h1]; rfl, cond_false, if_neg (fun h : (cutFull R W L id).2 ≠ 0 => h h1)]
    by_cases h2 : id = 0
    · rw [if_pos h2, show (id == 0) = true from beq_iff_eq.2 h2]; rfl
    · rw [if_neg h2, show (id == 0) = false from beq_eq_false_iff_ne.2 h2, cond_false, ref34_Check_s k (by omega), ref34_Check_v k (by omega), Option.isSome_some, if_pos rfl]
      by_cases h3 : secE secs = 0
      · have hl := (secE_zero h3).1
        rw [show (secE secs != 0) = false by rw [h3]; rfl, cond_false, if_neg (fun h : secE secs ≠ 0 => h h3), ref13_Image_s k (by omega), ref13_Image_v k (by omega), image_ok ci.chk, Option.isSome_some, if_pos rfl]
        dsimp only
        have key : endS secs = L → f_u82_18 k k id (nf ((cutFull R W L id).1.2.2.2.map spn)) (-1) true 0 (regT R W L secs sp gr core) (0, false, 0, 0, 0, 0) (cutFull R W L id).1 = some (finS R W L sp gr core id (cutFull R W L id).1 (gpS secs (cutFull R W L id).1).1 (gpS secs (cutFull R W L id).1).2) := fun h4 =>
          GatherR_0 k hk R W L secs h3 sp gr core id _ cl (fun s hs => by
            obtain ⟨a, b, c, d⟩ := cs s hs
            exact ⟨a, b, c, by omega⟩) (cutFull R W L id).1 ci.chk (0, false, 0, 0, 0, 0) k (by omega)
        by_cases h : secs.length = 0
        · have he : endS secs = 0 := by unfold endS; rw [if_pos h]
          rw [decide_eq_false (by omega : ¬ (secs.length : Int) > 0), cond_false]
          by_cases h4 : endS secs = L
          · rw [if_neg (fun h : endS secs ≠ L => h h4), show ((0 : Int) != L) = false from by rw [← h4, he]; rfl, cond_false]
            exact key h4
          · rw [if_pos h4, show ((0 : Int) != L) = true from bne_iff_ne.2 (by rw [← he]; exact h4)]; rfl
        · have he : endS secs = (secs.getD (secs.length - 1) T3.dflt).2.1 := by unfold endS; rw [if_neg h]
          rw [decide_eq_true (by omega : (secs.length : Int) > 0), cond_true, end_idx hl h, if_pos ⟨by omega, by omega⟩, Int.toNat_natCast, ← he]
          by_cases h4 : endS secs = L
          · rw [if_neg (fun h : endS secs ≠ L => h h4), show (endS secs != L) = false by rw [h4]; exact bne_self_eq_false _, cond_false]
            exact key h4
          · rw [if_pos h4, bne_iff_ne.2 h4]; rfl
      · rw [if_pos h3, bne_iff_ne.2 h3]; rfl
  · rw [if_pos h1, bne_iff_ne.2 h1]; rfl
theorem ref55_Gather_v (k : Nat) (hk : 301000 ≤ k) (R : List Ro) (W L : Int) (secs : List Sec) (sp : List Spt) (gr : List Grd) (core id : Int) : v_u82 k (regT R W L secs sp gr core) id = gatherS R W L secs sp gr core id := by
  unfold v_u82; rw [ref55_Gather_s k hk]; rfl
/-! ### the law -/
abbrev Cas := T7.T
theorem great_4 (k : Nat) (l : List Ro) (hl : l.length ≤ 30) : ∀ (d i j : Nat), i + d = l.length → d < j → (f_u37_4 k j l (l.length : Int) (i : Int)).isSome = true := by
  intro d
  induction d with
  | zero =>
    intro i j hi hj
    obtain ⟨j, rfl⟩ : ∃ q, j = q + 1 := ⟨j - 1, by omega⟩
    rw [f_u37_4, decide_eq_false (by omega : ¬ (i : Int) < (l.length : Int))]; rfl
  | succ d ih =>
    intro i j hi hj
    obtain ⟨j, rfl⟩ : ∃ q, j = q + 1 := ⟨j - 1, by omega⟩
    rw [f_u37_4, decide_eq_true (by omega : (i : Int) < (l.length : Int)), cond_true, if_pos ⟨by omega, by omega⟩, wrapS i (by omega)]
    cases decide ((List.length (l.getD (i : Int).toNat T2.dflt).2.2.2.2.2 : Int) > 20)
    · exact ih (i + 1) j (by omega) (by omega)
    · rfl
theorem great_s (k : Nat) (hk : 100 ≤ k) (x : Cas) : (f_u37 k x).isSome = true := by
  unfold f_u37
  by_cases h : x.1.length > 30
  · rw [decide_eq_true (by omega : (List.length x.1 : Int) > 30), Bool.true_or]; rfl
  · cases decide ((List.length x.2.2.2.2.1 : Int) > 30)
    · rw [decide_eq_false (by omega : ¬ (List.length x.1 : Int) > 30), Bool.or_false, cond_false]
      exact great_4 k x.1 (by omega) x.1.length 0 k (by omega) (by omega)
    · rw [Bool.or_true]; rfl
theorem eqT_fac (p : Fac) : eqT T8 p p = true := by
  show ((p.1 == p.1) && ((p.2.1 == p.2.1) && ((p.2.2.1 == p.2.2.1) && ((p.2.2.2.1 == p.2.2.2.1) && ((p.2.2.2.2.1 == p.2.2.2.2.1) && (p.2.2.2.2.2 == p.2.2.2.2.2)))))) = true
  simp
theorem awake55_s : f_u36 400000 = some true := by kernel_rfl
theorem awake55_v : v_u36 400000 = true := by unfold v_u36; rw [awake55_s]; rfl
theorem q_ReleaseGathers (x : Cas) (id : Int) : f_u35 400000 x id = some true := by
  have hk : 301000 ≤ 400000 := by decide
  have hg := great_s 400000 (by decide) x
  have ho : f_u39 400000 x = some (x.1, (x.2.1, x.2.2.1), x.2.2.2.1, x.2.2.2.2.1, x.2.2.2.2.2.1, x.2.2.2.2.2.2) := rfl
  have hov : v_u39 400000 x = (x.1, (x.2.1, x.2.2.1), x.2.2.2.1, x.2.2.2.2.1, x.2.2.2.2.2.1, x.2.2.2.2.2.2) := rfl
  have ht : f_u40 400000 x = some (regT x.1 x.2.1 x.2.2.1 x.2.2.2.1 x.2.2.2.2.1 x.2.2.2.2.2.1 x.2.2.2.2.2.2) := rfl
  have htv : v_u40 400000 x = regT x.1 x.2.1 x.2.2.1 x.2.2.2.1 x.2.2.2.2.1 x.2.2.2.2.2.1 x.2.2.2.2.2.2 := rfl
  unfold f_u35
  rw [hg, awake55_s, awake55_v, ho, hov, ht, htv, release_Gather_s 400000 hk, release_Gather_v 400000 hk, ref55_Gather_s 400000 hk, ref55_Gather_v 400000 hk, eqT_fac, beq_self_eq_true]
  cases v_u37 400000 x <;> rfl
end Go.AM
