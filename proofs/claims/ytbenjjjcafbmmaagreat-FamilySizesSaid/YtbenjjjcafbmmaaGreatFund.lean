/- Contracts of the functions that the law reaches, and the plain law. -/
import Derived.Test.YtbenjjjcafbmmaaGreatFunc
set_option linter.unusedVariables false
set_option linter.unusedSimpArgs false
set_option linter.unusedSectionVars false
namespace Go.AM
open Go Go.Proofs Go.IntKind
set_option linter.unusedVariables false
noncomputable section
abbrev R_u25 : Type := Bool
def res_u25 (r : R_u25) : AV := .r (.v (.bool r))
def bo_u25 (g_0 : Int) (g_1 : Int) (g_2 : List (T2).T) (g_3 : List ((I).T × (I).T)) (id_ : Int) (r : R_u25) : List (Nat × Blk) := [(0, .var 73 [.r (.v (.int .i64 g_0)), .r (.v (.int .i64 g_1)), .r (.ro T2 g_2), .own 1 0]), (0, .map false I I g_3)]
def args_u25 (g_0 : Int) (g_1 : Int) (g_2 : List (T2).T) (g_3 : List ((I).T × (I).T)) (id_ : Int) : List AV := [.ptr 0 0 0, .r (.v (.int .i64 id_))]
def bin_u25 (g_0 : Int) (g_1 : Int) (g_2 : List (T2).T) (g_3 : List ((I).T × (I).T)) (id_ : Int) : List Blk := [.var 73 [.r (.v (.int .i64 g_0)), .r (.v (.int .i64 g_1)), .r (.ro T2 g_2), .own 1 0], .map false I I g_3]
def f_u25 (k : Nat) (g_0 : Int) (g_1 : Int) (g_2 : List (T2).T) (g_3 : List ((I).T × (I).T)) (id_ : Int) : Option R_u25 :=
 if ((f_u19 k g_0 g_1 g_2 g_3 id_).isSome = true) then
 bif (Sum.isLeft (v_u22 k false g_0 g_1 g_2 g_3 (v_u19 k g_0 g_1 g_2 g_3 id_))) then
 if ((f_u22 k false g_0 g_1 g_2 g_3 (v_u19 k g_0 g_1 g_2 g_3 id_)).isSome = true) then
 some (vA_u22 k false g_0 g_1 g_2 g_3 (v_u19 k g_0 g_1 g_2 g_3 id_))
 else none
 else
 if ((f_u22 k false g_0 g_1 g_2 g_3 (v_u19 k g_0 g_1 g_2 g_3 id_)).isSome = true) then
 some true
 else none
 else none
def v_u25 (k : Nat) (g_0 : Int) (g_1 : Int) (g_2 : List (T2).T) (g_3 : List ((I).T × (I).T)) (id_ : Int) : R_u25 := (f_u25 k g_0 g_1 g_2 g_3 id_).getD false
def K_u25 (k : Nat) : Calld := ⟨fun g xs => match g with
 | 44 => match xs with
  | [.ptr _ _ _, _] => some [true, false]
  | _ => none
 | 64 => match xs with
  | [.own _ _, .ptr _ _ _, .ptr _ _ _] => some [true, true, true]
  | _ => none
 | _ => none, fun g xs bs => match g with
 | 44 => match xs, bs with
  | [.ptr 0 0 0, .r (.v (.int .i64 id_))], [.var 73 [.r (.v (.int .i64 g_0)), .r (.v (.int .i64 g_1)), .r (.ro tg_2_ qg_2), .own 1 0], .map false kg_3_ tg_3_ qg_3] => (castL tg_2_ T2 qg_2).bind fun g_2 => (castM kg_3_ tg_3_ I I qg_3).bind fun g_3 => some (.one (res_u19 (v_u19 k g_0 g_1 g_2 g_3 id_), bo_u19 g_0 g_1 g_2 g_3 id_ (v_u19 k g_0 g_1 g_2 g_3 id_)))
  | _, _ => none
 | 64 => match xs, bs with
  | [.own 0 0, .ptr 2 0 0, .ptr 5 0 0], [.loop _ _ _ qyield_, .var 4 [.r (.v (.bool yield_40))], .var 66 [.ptr 3 0 0], .var 73 [.r (.v (.int .i64 z000)), .r (.v (.int .i64 z001)), .r (.ro tz002_ qz002), .own 4 0], .map false kz003_ tz003_ qz003, .var 3 [.r (.v (.int .i64 z10))]] => (castL tz002_ T2 qz002).bind fun z002 => (castM kz003_ tz003_ I I qz003).bind fun z003 => some (.two (v_u22 k yield_40 z000 z001 z002 z003 z10).isLeft (resA_u22 (vA_u22 k yield_40 z000 z001 z002 z003 z10), boA_u22 yield_40 z000 z001 z002 z003 z10 (vA_u22 k yield_40 z000 z001 z002 z003 z10)) (resB_u22 (vB_u22 k yield_40 z000 z001 z002 z003 z10), boB_u22 yield_40 z000 z001 z002 z003 z10 (vB_u22 k yield_40 z000 z001 z002 z003 z10)))
  | _, _ => none
 | _ => none⟩
theorem of_u25 (k : Nat) (g_0 : Int) (g_1 : Int) (g_2 : List (T2).T) (g_3 : List ((I).T × (I).T)) (id_ : Int) (r : R_u25) (h : f_u25 k g_0 g_1 g_2 g_3 id_ = some r) : CC Tryz.prog 45 (args_u25 g_0 g_1 g_2 g_3 id_) (bin_u25 g_0 g_1 g_2 g_3 id_) (res_u25 r) (bo_u25 g_0 g_1 g_2 g_3 id_ r) := by
 refine CC.of (fn := Tryz.f45) (by kernel_rfl) (by kernel_rfl) (by kernel_rfl) (by kernel_rfl) ?_
 unfold f_u25 at h
 refine Ev.tree hm (R := Rt) (K := (K_u25 k)) (l := []) (C := []) (E := [.autoB [4] true []]) (n := 1000) (T := .need [CC Tryz.prog 44 (args_u19 g_0 g_1 g_2 g_3 id_) (bin_u19 g_0 g_1 g_2 g_3 id_) (res_u19 (v_u19 k g_0 g_1 g_2 g_3 id_)) (bo_u19 g_0 g_1 g_2 g_3 id_ (v_u19 k g_0 g_1 g_2 g_3 id_))] (.test ((Sum.isLeft (v_u22 k false g_0 g_1 g_2 g_3 (v_u19 k g_0 g_1 g_2 g_3 id_)))) (.need [CC Tryz.prog 64 (args_u22 false g_0 g_1 g_2 g_3 (v_u19 k g_0 g_1 g_2 g_3 id_)) (bin_u22 false g_0 g_1 g_2 g_3 (v_u19 k g_0 g_1 g_2 g_3 id_)) (resA_u22 (vA_u22 k false g_0 g_1 g_2 g_3 (v_u19 k g_0 g_1 g_2 g_3 id_))) (boA_u22 false g_0 g_1 g_2 g_3 (v_u19 k g_0 g_1 g_2 g_3 id_) (vA_u22 k false g_0 g_1 g_2 g_3 (v_u19 k g_0 g_1 g_2 g_3 id_)))] (.leaf (res_u25 (vA_u22 k false g_0 g_1 g_2 g_3 (v_u19 k g_0 g_1 g_2 g_3 id_))) (bo_u25 g_0 g_1 g_2 g_3 id_ (vA_u22 k false g_0 g_1 g_2 g_3 (v_u19 k g_0 g_1 g_2 g_3 id_))))) (.need [CC Tryz.prog 64 (args_u22 false g_0 g_1 g_2 g_3 (v_u19 k g_0 g_1 g_2 g_3 id_)) (bin_u22 false g_0 g_1 g_2 g_3 (v_u19 k g_0 g_1 g_2 g_3 id_)) (resB_u22 (vB_u22 k false g_0 g_1 g_2 g_3 (v_u19 k g_0 g_1 g_2 g_3 id_))) (boB_u22 false g_0 g_1 g_2 g_3 (v_u19 k g_0 g_1 g_2 g_3 id_) (vB_u22 k false g_0 g_1 g_2 g_3 (v_u19 k g_0 g_1 g_2 g_3 id_)))] (.leaf (res_u25 true) (bo_u25 g_0 g_1 g_2 g_3 id_ true))))) (by kernel_rfl) ?_
 by_cases q : ((f_u19 k g_0 g_1 g_2 g_3 id_).isSome = true)
 ·rw [if_pos q] at h
  refine ⟨(conjC (cc_u19 k g_0 g_1 g_2 g_3 id_ q) conj0), ?_⟩
  refine ⟨fun c => ?_, fun c => ?_⟩
  ·rw [cond_t (show ((Sum.isLeft (v_u22 k false g_0 g_1 g_2 g_3 (v_u19 k g_0 g_1 g_2 g_3 id_)))) = true from c)] at h
   by_cases q : ((f_u22 k false g_0 g_1 g_2 g_3 (v_u19 k g_0 g_1 g_2 g_3 id_)).isSome = true)
   ·rw [if_pos q] at h
    refine ⟨(conjC (ccA_u22 k false g_0 g_1 g_2 g_3 (v_u19 k g_0 g_1 g_2 g_3 id_) q (by assumption)) conj0), ?_⟩
    cases h; exact ⟨rfl, rfl⟩
   ·rw [if_neg q] at h; cases h
  ·rw [cond_f (show ((Sum.isLeft (v_u22 k false g_0 g_1 g_2 g_3 (v_u19 k g_0 g_1 g_2 g_3 id_)))) = false from c)] at h
   by_cases q : ((f_u22 k false g_0 g_1 g_2 g_3 (v_u19 k g_0 g_1 g_2 g_3 id_)).isSome = true)
   ·rw [if_pos q] at h
    refine ⟨(conjC (ccB_u22 k false g_0 g_1 g_2 g_3 (v_u19 k g_0 g_1 g_2 g_3 id_) q (by assumption)) conj0), ?_⟩
    cases h; exact ⟨rfl, rfl⟩
   ·rw [if_neg q] at h; cases h
 ·rw [if_neg q] at h; cases h
theorem cc_u25 (k : Nat) (g_0 : Int) (g_1 : Int) (g_2 : List (T2).T) (g_3 : List ((I).T × (I).T)) (id_ : Int) (h : (f_u25 k g_0 g_1 g_2 g_3 id_).isSome = true) : CC Tryz.prog 45 (args_u25 g_0 g_1 g_2 g_3 id_) (bin_u25 g_0 g_1 g_2 g_3 id_) (res_u25 (v_u25 k g_0 g_1 g_2 g_3 id_)) (bo_u25 g_0 g_1 g_2 g_3 id_ (v_u25 k g_0 g_1 g_2 g_3 id_)) := by
 cases e : f_u25 k g_0 g_1 g_2 g_3 id_ with
 | none => rw [e] at h; cases h
 | some r => rw [show v_u25 k g_0 g_1 g_2 g_3 id_ = r by simp [v_u25, e]]; exact of_u25 k g_0 g_1 g_2 g_3 id_ r e

end
end Go.AM
namespace Go.AM
open Go Go.Proofs Go.IntKind
set_option linter.unusedVariables false
noncomputable section
abbrev R_u7 : Type := List (I).T × Int
def res_u7 (r : R_u7) : AV := .tup [.r (.ro I r.1), .r (.v (.int .i64 r.2))]
def bo_u7 (l_ : List (T2).T) (web_ : T5.T) (r : R_u7) : List (Nat × Blk) := []
def args_u7 (l_ : List (T2).T) (web_ : T5.T) : List AV := [.r (.ro T2 l_), .agg (rvs (enc T5 web_))]
def bin_u7 (l_ : List (T2).T) (web_ : T5.T) : List Blk := []
def st_u7_6 (y0 : List (T2).T) (y1 : Int) (y2 : Int) (y3 : Int) (y4 : Int) (y5 : List (T2).T) (y6 : List ((I).T × (I).T)) (y7 : List (I).T) : St := ⟨mkS 37 [(6, .ptr 1000000 0 0), (8, .own 1000002 0), (20, .r (.ro T2 y0)), (21, .r (.v (.int .i64 y1))), (22, .r (.v (.int .i64 y2)))], [(1000000, 0, .var 73 [.r (.v (.int .i64 y3)), .r (.v (.int .i64 y4)), .r (.ro T2 y5), .own 1000001 0]), (1000001, 0, .map false I I y6), (1000002, 0, .row 3 I y7)]⟩
def f_u7_6 (k : Nat) : Nat → List (T2).T → Int → Int → Int → Int → List (T2).T → (List ((I).T × (I).T)) → List (I).T → Option R_u7
 | 0, _, _, _, _, _, _, _, _ => none
 | j + 1, y0, y1, y2, y3, y4, y5, y6, y7 =>
 bif (decide (y2 < y1)) then
 if (0 ≤ y2) ∧ (y2 < (↑y0.length : Int)) then
 if ((f_u25 k y3 y4 y5 y6 (y0.getD y2.toNat T2.dflt).1).isSome = true) then
 bif (v_u25 k y3 y4 y5 y6 (y0.getD y2.toNat T2.dflt).1) then
 if ((y7.length + [(y0.getD y2.toNat T2.dflt).1].length) * (8 : Nat) ≤ (140737488355328 : Nat)) then
 f_u7_6 k j y0 y1 ((i64.wrap (y2 + 1))) y3 y4 y5 y6 ((y7 ++ [(y0.getD y2.toNat T2.dflt).1]))
 else none
 else
 f_u7_6 k j y0 y1 ((i64.wrap (y2 + 1))) y3 y4 y5 y6 y7
 else none
 else none
 else
 some ((y7, 0))
def f_u7 (k : Nat) (l_ : List (T2).T) (web_ : T5.T) : Option R_u7 :=
 bif (Sum.isLeft (v_u15 k l_ web_)) then
 if ((f_u15 k l_ web_).isSome = true) then
 bif (vA_u15 k l_ web_ != (0 : Int)) then
 some (([], vA_u15 k l_ web_))
 else
 none
 else none
 else
 if ((f_u15 k l_ web_).isSome = true) then
 bif ((vB_u15 k l_ web_).1 != (0 : Int)) then
 some (([], (vB_u15 k l_ web_).1))
 else
 f_u7_6 k k l_ ((↑l_.length : Int)) 0 ((vB_u15 k l_ web_).2.1) ((vB_u15 k l_ web_).2.2.1) ((vB_u15 k l_ web_).2.2.2.1) ((vB_u15 k l_ web_).2.2.2.2) ([])
 else none
def v_u7 (k : Nat) (l_ : List (T2).T) (web_ : T5.T) : R_u7 := (f_u7 k l_ web_).getD ([], 0)
def K_u7 (k : Nat) : Calld := ⟨fun g xs => match g with
 | 39 => match xs with
  | [_, _] => some [false, false]
  | _ => none
 | 45 => match xs with
  | [.ptr _ _ _, _] => some [true, false]
  | _ => none
 | _ => none, fun g xs bs => match g with
 | 39 => match xs, bs with
  | [.r (.ro tl__ ql_), .agg qweb_], [] => (castL tl__ T2 ql_).bind fun l_ => (decS [] T5 qweb_).bind fun web_ => some (.two (v_u15 k l_ web_).isLeft (resA_u15 (vA_u15 k l_ web_), boA_u15 l_ web_ (vA_u15 k l_ web_)) (resB_u15 (vB_u15 k l_ web_), boB_u15 l_ web_ (vB_u15 k l_ web_)))
  | _, _ => none
 | 45 => match xs, bs with
  | [.ptr 0 0 0, .r (.v (.int .i64 id_))], [.var 73 [.r (.v (.int .i64 g_0)), .r (.v (.int .i64 g_1)), .r (.ro tg_2_ qg_2), .own 1 0], .map false kg_3_ tg_3_ qg_3] => (castL tg_2_ T2 qg_2).bind fun g_2 => (castM kg_3_ tg_3_ I I qg_3).bind fun g_3 => some (.one (res_u25 (v_u25 k g_0 g_1 g_2 g_3 id_), bo_u25 g_0 g_1 g_2 g_3 id_ (v_u25 k g_0 g_1 g_2 g_3 id_)))
  | _, _ => none
 | _ => none⟩
theorem ev_u7 (k : Nat) (l_ : List (T2).T) (web_ : T5.T) : ∀ j, (∀ (y0 : List (T2).T) (y1 : Int) (y2 : Int) (y3 : Int) (y4 : Int) (y5 : List (T2).T) (y6 : List ((I).T × (I).T)) (y7 : List (I).T) (r : R_u7), f_u7_6 k j y0 y1 y2 y3 y4 y5 y6 y7 = some r → Ev Tryz.prog Tryz.f25 0 (placeAt Tryz.f25 6) (st_u7_6 y0 y1 y2 y3 y4 y5 y6 y7) (res_u7 r) (bo_u7 l_ web_ r))
 | 0 => by
  intros; rename_i h; simp [f_u7_6] at h
 | j + 1 => by
  have ih := ev_u7 k l_ web_ j
  ·intro y0 y1 y2 y3 y4 y5 y6 y7 r h
   rw [f_u7_6] at h
   refine Ev.tree hm (R := Rt) (K := (K_u7 k)) (l := []) (C := [(6, [.row 8 3 I, .autoB [6, 8, 20, 21, 22] false []])]) (E := [.frz 4 false (RTy.list I), .autoB [4, 5] true []]) (n := 1000) (T := .test ((decide (y2 < y1))) (.need [0 ≤ y2, y2 < (↑y0.length : Int)] (.need [CC Tryz.prog 45 (args_u25 y3 y4 y5 y6 (y0.getD y2.toNat T2.dflt).1) (bin_u25 y3 y4 y5 y6 (y0.getD y2.toNat T2.dflt).1) (res_u25 (v_u25 k y3 y4 y5 y6 (y0.getD y2.toNat T2.dflt).1)) (bo_u25 y3 y4 y5 y6 (y0.getD y2.toNat T2.dflt).1 (v_u25 k y3 y4 y5 y6 (y0.getD y2.toNat T2.dflt).1))] (.test ((v_u25 k y3 y4 y5 y6 (y0.getD y2.toNat T2.dflt).1)) (.need [(y7.length + [(y0.getD y2.toNat T2.dflt).1].length) * (8 : Nat) ≤ (140737488355328 : Nat)] (.cut 6 (placeAt Tryz.f25 6) (st_u7_6 y0 y1 ((i64.wrap (y2 + 1))) y3 y4 y5 y6 ((y7 ++ [(y0.getD y2.toNat T2.dflt).1]))))) (.cut 6 (placeAt Tryz.f25 6) (st_u7_6 y0 y1 ((i64.wrap (y2 + 1))) y3 y4 y5 y6 y7))))) (.leaf (res_u7 ((y7, 0))) (bo_u7 l_ web_ ((y7, 0))))) (by kernel_rfl) ?_
   refine ⟨fun c => ?_, fun c => ?_⟩
   ·rw [cond_t (show ((decide (y2 < y1))) = true from c)] at h
    by_cases q : (0 ≤ y2) ∧ (y2 < (↑y0.length : Int))
    ·rw [if_pos q] at h
     refine ⟨(conjC q.1 (conjC q.2 conj0)), ?_⟩
     by_cases q : ((f_u25 k y3 y4 y5 y6 (y0.getD y2.toNat T2.dflt).1).isSome = true)
     ·rw [if_pos q] at h
      refine ⟨(conjC (cc_u25 k y3 y4 y5 y6 (y0.getD y2.toNat T2.dflt).1 q) conj0), ?_⟩
      refine ⟨fun c => ?_, fun c => ?_⟩
      ·rw [cond_t (show ((v_u25 k y3 y4 y5 y6 (y0.getD y2.toNat T2.dflt).1)) = true from c)] at h
       by_cases q : ((y7.length + [(y0.getD y2.toNat T2.dflt).1].length) * (8 : Nat) ≤ (140737488355328 : Nat))
       ·rw [if_pos q] at h
        refine ⟨(conjC q conj0), ?_⟩
        exact ih y0 y1 ((i64.wrap (y2 + 1))) y3 y4 y5 y6 ((y7 ++ [(y0.getD y2.toNat T2.dflt).1])) _ h
       ·rw [if_neg q] at h; cases h
      ·rw [cond_f (show ((v_u25 k y3 y4 y5 y6 (y0.getD y2.toNat T2.dflt).1)) = false from c)] at h
       exact ih y0 y1 ((i64.wrap (y2 + 1))) y3 y4 y5 y6 y7 _ h
     ·rw [if_neg q] at h; cases h
    ·rw [if_neg q] at h; cases h
   ·rw [cond_f (show ((decide (y2 < y1))) = false from c)] at h
    cases h; exact ⟨rfl, rfl⟩
theorem of_u7 (k : Nat) (l_ : List (T2).T) (web_ : T5.T) (r : R_u7) (h : f_u7 k l_ web_ = some r) : CC Tryz.prog 25 (args_u7 l_ web_) (bin_u7 l_ web_) (res_u7 r) (bo_u7 l_ web_ r) := by
 refine CC.of (fn := Tryz.f25) (by kernel_rfl) (by kernel_rfl) (by kernel_rfl) (by kernel_rfl) ?_
 unfold f_u7 at h
 refine Ev.tree hm (R := Rt) (K := (K_u7 k)) (l := []) (C := [(6, [.row 8 3 I, .autoB [6, 8, 20, 21, 22] false []])]) (E := [.frz 4 false (RTy.list I), .autoB [4, 5] true []]) (n := 1000) (T := .test ((Sum.isLeft (v_u15 k l_ web_))) (.need [CC Tryz.prog 39 (args_u15 l_ web_) (bin_u15 l_ web_) (resA_u15 (vA_u15 k l_ web_)) (boA_u15 l_ web_ (vA_u15 k l_ web_))] (.test ((vA_u15 k l_ web_ != (0 : Int))) (.leaf (res_u7 (([], vA_u15 k l_ web_))) (bo_u7 l_ web_ (([], vA_u15 k l_ web_)))) (.cut 6 (placeAt Tryz.f25 6) ⟨mkS 37 [(6, .r (.v (Value.pointer none))), (8, .own 1000000 0), (20, .r (.ro T2 l_)), (21, .r (.v (.int .i64 ((↑l_.length : Int))))), (22, .r (.v (.int .i64 0)))], [(1000000, 0, .row 3 I ([]))]⟩))) (.need [CC Tryz.prog 39 (args_u15 l_ web_) (bin_u15 l_ web_) (resB_u15 (vB_u15 k l_ web_)) (boB_u15 l_ web_ (vB_u15 k l_ web_))] (.test (((vB_u15 k l_ web_).1 != (0 : Int))) (.leaf (res_u7 (([], (vB_u15 k l_ web_).1))) (bo_u7 l_ web_ (([], (vB_u15 k l_ web_).1)))) (.cut 6 (placeAt Tryz.f25 6) (st_u7_6 l_ ((↑l_.length : Int)) 0 ((vB_u15 k l_ web_).2.1) ((vB_u15 k l_ web_).2.2.1) ((vB_u15 k l_ web_).2.2.2.1) ((vB_u15 k l_ web_).2.2.2.2) ([])))))) (by kernel_rfl) ?_
 refine ⟨fun c => ?_, fun c => ?_⟩
 ·rw [cond_t (show ((Sum.isLeft (v_u15 k l_ web_))) = true from c)] at h
  by_cases q : ((f_u15 k l_ web_).isSome = true)
  ·rw [if_pos q] at h
   refine ⟨(conjC (ccA_u15 k l_ web_ q (by assumption)) conj0), ?_⟩
   refine ⟨fun c => ?_, fun c => ?_⟩
   ·rw [cond_t (show ((vA_u15 k l_ web_ != (0 : Int))) = true from c)] at h
    cases h; exact ⟨rfl, rfl⟩
   ·rw [cond_f (show ((vA_u15 k l_ web_ != (0 : Int))) = false from c)] at h
    cases h
  ·rw [if_neg q] at h; cases h
 ·rw [cond_f (show ((Sum.isLeft (v_u15 k l_ web_))) = false from c)] at h
  by_cases q : ((f_u15 k l_ web_).isSome = true)
  ·rw [if_pos q] at h
   refine ⟨(conjC (ccB_u15 k l_ web_ q (by assumption)) conj0), ?_⟩
   refine ⟨fun c => ?_, fun c => ?_⟩
   ·rw [cond_t (show (((vB_u15 k l_ web_).1 != (0 : Int))) = true from c)] at h
    cases h; exact ⟨rfl, rfl⟩
   ·rw [cond_f (show (((vB_u15 k l_ web_).1 != (0 : Int))) = false from c)] at h
    exact (ev_u7 k l_ web_ k) l_ ((↑l_.length : Int)) 0 ((vB_u15 k l_ web_).2.1) ((vB_u15 k l_ web_).2.2.1) ((vB_u15 k l_ web_).2.2.2.1) ((vB_u15 k l_ web_).2.2.2.2) ([]) _ h
  ·rw [if_neg q] at h; cases h
theorem cc_u7 (k : Nat) (l_ : List (T2).T) (web_ : T5.T) (h : (f_u7 k l_ web_).isSome = true) : CC Tryz.prog 25 (args_u7 l_ web_) (bin_u7 l_ web_) (res_u7 (v_u7 k l_ web_)) (bo_u7 l_ web_ (v_u7 k l_ web_)) := by
 cases e : f_u7 k l_ web_ with
 | none => rw [e] at h; cases h
 | some r => rw [show v_u7 k l_ web_ = r by simp [v_u7, e]]; exact of_u7 k l_ web_ r e

end
end Go.AM
namespace Go.AM
open Go Go.Proofs Go.IntKind
set_option linter.unusedVariables false
noncomputable section
abbrev R_u83 : Type := Bool
def res_u83 (r : R_u83) : AV := .r (.v (.bool r))
def bo_u83 (l_ : List (T2).T) (id_ : Int) (r : R_u83) : List (Nat × Blk) := []
def args_u83 (l_ : List (T2).T) (id_ : Int) : List AV := [.r (.ro T2 l_), .r (.v (.int .i64 id_))]
def bin_u83 (l_ : List (T2).T) (id_ : Int) : List Blk := []
def st_u83_2 (y0 : List (T2).T) (y1 : Int) (y2 : Int) : St := ⟨mkS 19 [(0, .r (.ro T2 y0)), (1, .r (.v (.int .i64 y1))), (5, .r (.v (.int .i64 y2)))], []⟩
def f_u83_2 (k : Nat) : Nat → List (T2).T → Int → Int → Option R_u83
 | 0, _, _, _ => none
 | j + 1, y0, y1, y2 =>
 bif (decide (y2 < (↑y0.length : Int))) then
 if (0 ≤ y2) ∧ (y2 < (↑y0.length : Int)) then
 bif ((y0.getD y2.toNat T2.dflt).2.1 == y1) then
 some false
 else
 f_u83_2 k j y0 y1 ((i64.wrap (y2 + 1)))
 else none
 else
 some true
def f_u83 (k : Nat) (l_ : List (T2).T) (id_ : Int) : Option R_u83 :=
 f_u83_2 k k l_ id_ 0
def v_u83 (k : Nat) (l_ : List (T2).T) (id_ : Int) : R_u83 := (f_u83 k l_ id_).getD false
def K_u83 (k : Nat) : Calld := ⟨fun g xs => match g with
 | _ => none, fun g xs bs => match g with
 | _ => none⟩
theorem ev_u83 (k : Nat) (l_ : List (T2).T) (id_ : Int) : ∀ j, (∀ (y0 : List (T2).T) (y1 : Int) (y2 : Int) (r : R_u83), f_u83_2 k j y0 y1 y2 = some r → Ev Tryz.prog Tryz.f46 0 (placeAt Tryz.f46 2) (st_u83_2 y0 y1 y2) (res_u83 r) (bo_u83 l_ id_ r))
 | 0 => by
  intros; rename_i h; simp [f_u83_2] at h
 | j + 1 => by
  have ih := ev_u83 k l_ id_ j
  ·intro y0 y1 y2 r h
   rw [f_u83_2] at h
   refine Ev.tree hm (R := Rt) (K := (K_u83 k)) (l := []) (C := [(2, [.autoB [0, 1, 5] false []])]) (E := [.autoB [4] true []]) (n := 1000) (T := .test ((decide (y2 < (↑y0.length : Int)))) (.need [0 ≤ y2, y2 < (↑y0.length : Int)] (.test (((y0.getD y2.toNat T2.dflt).2.1 == y1)) (.leaf (res_u83 false) (bo_u83 l_ id_ false)) (.cut 2 (placeAt Tryz.f46 2) (st_u83_2 y0 y1 ((i64.wrap (y2 + 1))))))) (.leaf (res_u83 true) (bo_u83 l_ id_ true))) (by kernel_rfl) ?_
   refine ⟨fun c => ?_, fun c => ?_⟩
   ·rw [cond_t (show ((decide (y2 < (↑y0.length : Int)))) = true from c)] at h
    by_cases q : (0 ≤ y2) ∧ (y2 < (↑y0.length : Int))
    ·rw [if_pos q] at h
     refine ⟨(conjC q.1 (conjC q.2 conj0)), ?_⟩
     refine ⟨fun c => ?_, fun c => ?_⟩
     ·rw [cond_t (show (((y0.getD y2.toNat T2.dflt).2.1 == y1)) = true from c)] at h
      cases h; exact ⟨rfl, rfl⟩
     ·rw [cond_f (show (((y0.getD y2.toNat T2.dflt).2.1 == y1)) = false from c)] at h
      exact ih y0 y1 ((i64.wrap (y2 + 1))) _ h
    ·rw [if_neg q] at h; cases h
   ·rw [cond_f (show ((decide (y2 < (↑y0.length : Int)))) = false from c)] at h
    cases h; exact ⟨rfl, rfl⟩
theorem of_u83 (k : Nat) (l_ : List (T2).T) (id_ : Int) (r : R_u83) (h : f_u83 k l_ id_ = some r) : CC Tryz.prog 46 (args_u83 l_ id_) (bin_u83 l_ id_) (res_u83 r) (bo_u83 l_ id_ r) := by
 refine CC.of (fn := Tryz.f46) (by kernel_rfl) (by kernel_rfl) (by kernel_rfl) (by kernel_rfl) ?_
 unfold f_u83 at h
 refine Ev.tree hm (R := Rt) (K := (K_u83 k)) (l := []) (C := [(2, [.autoB [0, 1, 5] false []])]) (E := [.autoB [4] true []]) (n := 1000) (T := .cut 2 (placeAt Tryz.f46 2) (st_u83_2 l_ id_ 0)) (by kernel_rfl) ?_
 exact (ev_u83 k l_ id_ k) l_ id_ 0 _ h
theorem cc_u83 (k : Nat) (l_ : List (T2).T) (id_ : Int) (h : (f_u83 k l_ id_).isSome = true) : CC Tryz.prog 46 (args_u83 l_ id_) (bin_u83 l_ id_) (res_u83 (v_u83 k l_ id_)) (bo_u83 l_ id_ (v_u83 k l_ id_)) := by
 cases e : f_u83 k l_ id_ with
 | none => rw [e] at h; cases h
 | some r => rw [show v_u83 k l_ id_ = r by simp [v_u83, e]]; exact of_u83 k l_ id_ r e

end
end Go.AM
namespace Go.AM
open Go Go.Proofs Go.IntKind
set_option linter.unusedVariables false
noncomputable section
abbrev R_u84 : Type := List (I).T × Int
def res_u84 (r : R_u84) : AV := .tup [.r (.ro I r.1), .r (.v (.int .i64 r.2))]
def bo_u84 (l_ : List (T2).T) (web_ : T6.T) (r : R_u84) : List (Nat × Blk) := []
def args_u84 (l_ : List (T2).T) (web_ : T6.T) : List AV := [.r (.ro T2 l_), .agg (rvs (enc T6 web_))]
def bin_u84 (l_ : List (T2).T) (web_ : T6.T) : List Blk := []
def st_u84_6 (y0 : List (T2).T) (y1 : Int) (y2 : List (I).T) : St := ⟨mkS 40 [(0, .r (.ro T2 y0)), (7, .own 1000000 0), (8, .r (.v (.int .i64 y1)))], [(1000000, 0, .row 3 I y2)]⟩
def f_u84_6 (k : Nat) : Nat → List (T2).T → Int → List (I).T → Option R_u84
 | 0, _, _, _ => none
 | j + 1, y0, y1, y2 =>
 bif (decide (y1 < (↑y0.length : Int))) then
 if (0 ≤ y1) ∧ (y1 < (↑y0.length : Int)) ∧ ((f_u83 k y0 (y0.getD y1.toNat T2.dflt).1).isSome = true) then
 bif (v_u83 k y0 (y0.getD y1.toNat T2.dflt).1) then
 if (0 ≤ y1) ∧ (y1 < (↑y0.length : Int)) ∧ ((y2.length + [(y0.getD y1.toNat T2.dflt).1].length) * (8 : Nat) ≤ (140737488355328 : Nat)) then
 f_u84_6 k j y0 ((i64.wrap (y1 + 1))) ((y2 ++ [(y0.getD y1.toNat T2.dflt).1]))
 else none
 else
 f_u84_6 k j y0 ((i64.wrap (y1 + 1))) y2
 else none
 else
 some ((y2, 0))
def f_u84 (k : Nat) (l_ : List (T2).T) (web_ : T6.T) : Option R_u84 :=
 if ((f_u79 k l_ web_.1 web_.2).isSome = true) then
 bif (v_u79 k l_ web_.1 web_.2 != (0 : Int)) then
 some (([], v_u79 k l_ web_.1 web_.2))
 else
 f_u84_6 k k l_ 0 ([])
 else none
def v_u84 (k : Nat) (l_ : List (T2).T) (web_ : T6.T) : R_u84 := (f_u84 k l_ web_).getD ([], 0)
def K_u84 (k : Nat) : Calld := ⟨fun g xs => match g with
 | 20 => match xs with
  | [_, _, _] => some [false, false, false]
  | _ => none
 | 46 => match xs with
  | [_, _] => some [false, false]
  | _ => none
 | _ => none, fun g xs bs => match g with
 | 20 => match xs, bs with
  | [.r (.ro tl__ ql_), .r (.v (.int .i64 width_)), .r (.v (.int .i64 length_))], [] => (castL tl__ T2 ql_).bind fun l_ => some (.one (res_u79 (v_u79 k l_ width_ length_), bo_u79 l_ width_ length_ (v_u79 k l_ width_ length_)))
  | _, _ => none
 | 46 => match xs, bs with
  | [.r (.ro tl__ ql_), .r (.v (.int .i64 id_))], [] => (castL tl__ T2 ql_).bind fun l_ => some (.one (res_u83 (v_u83 k l_ id_), bo_u83 l_ id_ (v_u83 k l_ id_)))
  | _, _ => none
 | _ => none⟩
theorem ev_u84 (k : Nat) (l_ : List (T2).T) (web_ : T6.T) : ∀ j, (∀ (y0 : List (T2).T) (y1 : Int) (y2 : List (I).T) (r : R_u84), f_u84_6 k j y0 y1 y2 = some r → Ev Tryz.prog Tryz.f26 0 (placeAt Tryz.f26 6) (st_u84_6 y0 y1 y2) (res_u84 r) (bo_u84 l_ web_ r))
 | 0 => by
  intros; rename_i h; simp [f_u84_6] at h
 | j + 1 => by
  have ih := ev_u84 k l_ web_ j
  ·intro y0 y1 y2 r h
   rw [f_u84_6] at h
   refine Ev.tree hm (R := Rt) (K := (K_u84 k)) (l := []) (C := [(6, [.row 7 3 I, .autoB [0, 7, 8] false []])]) (E := [.frz 4 false (RTy.list I), .autoB [4, 5] true []]) (n := 1000) (T := .test ((decide (y1 < (↑y0.length : Int)))) (.need [0 ≤ y1, y1 < (↑y0.length : Int), CC Tryz.prog 46 (args_u83 y0 (y0.getD y1.toNat T2.dflt).1) (bin_u83 y0 (y0.getD y1.toNat T2.dflt).1) (res_u83 (v_u83 k y0 (y0.getD y1.toNat T2.dflt).1)) (bo_u83 y0 (y0.getD y1.toNat T2.dflt).1 (v_u83 k y0 (y0.getD y1.toNat T2.dflt).1))] (.test ((v_u83 k y0 (y0.getD y1.toNat T2.dflt).1)) (.need [0 ≤ y1, y1 < (↑y0.length : Int), (y2.length + [(y0.getD y1.toNat T2.dflt).1].length) * (8 : Nat) ≤ (140737488355328 : Nat)] (.cut 6 (placeAt Tryz.f26 6) (st_u84_6 y0 ((i64.wrap (y1 + 1))) ((y2 ++ [(y0.getD y1.toNat T2.dflt).1]))))) (.cut 6 (placeAt Tryz.f26 6) (st_u84_6 y0 ((i64.wrap (y1 + 1))) y2)))) (.leaf (res_u84 ((y2, 0))) (bo_u84 l_ web_ ((y2, 0))))) (by kernel_rfl) ?_
   refine ⟨fun c => ?_, fun c => ?_⟩
   ·rw [cond_t (show ((decide (y1 < (↑y0.length : Int)))) = true from c)] at h
    by_cases q : (0 ≤ y1) ∧ (y1 < (↑y0.length : Int)) ∧ ((f_u83 k y0 (y0.getD y1.toNat T2.dflt).1).isSome = true)
    ·rw [if_pos q] at h
     refine ⟨(conjC q.1 (conjC q.2.1 (conjC (cc_u83 k y0 (y0.getD y1.toNat T2.dflt).1 q.2.2) conj0))), ?_⟩
     refine ⟨fun c => ?_, fun c => ?_⟩
     ·rw [cond_t (show ((v_u83 k y0 (y0.getD y1.toNat T2.dflt).1)) = true from c)] at h
      by_cases q : (0 ≤ y1) ∧ (y1 < (↑y0.length : Int)) ∧ ((y2.length + [(y0.getD y1.toNat T2.dflt).1].length) * (8 : Nat) ≤ (140737488355328 : Nat))
      ·rw [if_pos q] at h
       refine ⟨(conjC q.1 (conjC q.2.1 (conjC q.2.2 conj0))), ?_⟩
       exact ih y0 ((i64.wrap (y1 + 1))) ((y2 ++ [(y0.getD y1.toNat T2.dflt).1])) _ h
      ·rw [if_neg q] at h; cases h
     ·rw [cond_f (show ((v_u83 k y0 (y0.getD y1.toNat T2.dflt).1)) = false from c)] at h
      exact ih y0 ((i64.wrap (y1 + 1))) y2 _ h
    ·rw [if_neg q] at h; cases h
   ·rw [cond_f (show ((decide (y1 < (↑y0.length : Int)))) = false from c)] at h
    cases h; exact ⟨rfl, rfl⟩
theorem of_u84 (k : Nat) (l_ : List (T2).T) (web_ : T6.T) (r : R_u84) (h : f_u84 k l_ web_ = some r) : CC Tryz.prog 26 (args_u84 l_ web_) (bin_u84 l_ web_) (res_u84 r) (bo_u84 l_ web_ r) := by
 refine CC.of (fn := Tryz.f26) (by kernel_rfl) (by kernel_rfl) (by kernel_rfl) (by kernel_rfl) ?_
 unfold f_u84 at h
 refine Ev.tree hm (R := Rt) (K := (K_u84 k)) (l := []) (C := [(6, [.row 7 3 I, .autoB [0, 7, 8] false []])]) (E := [.frz 4 false (RTy.list I), .autoB [4, 5] true []]) (n := 1000) (T := .need [CC Tryz.prog 20 (args_u79 l_ web_.1 web_.2) (bin_u79 l_ web_.1 web_.2) (res_u79 (v_u79 k l_ web_.1 web_.2)) (bo_u79 l_ web_.1 web_.2 (v_u79 k l_ web_.1 web_.2))] (.test ((v_u79 k l_ web_.1 web_.2 != (0 : Int))) (.leaf (res_u84 (([], v_u79 k l_ web_.1 web_.2))) (bo_u84 l_ web_ (([], v_u79 k l_ web_.1 web_.2)))) (.cut 6 (placeAt Tryz.f26 6) (st_u84_6 l_ 0 ([]))))) (by kernel_rfl) ?_
 by_cases q : ((f_u79 k l_ web_.1 web_.2).isSome = true)
 ·rw [if_pos q] at h
  refine ⟨(conjC (cc_u79 k l_ web_.1 web_.2 q) conj0), ?_⟩
  refine ⟨fun c => ?_, fun c => ?_⟩
  ·rw [cond_t (show ((v_u79 k l_ web_.1 web_.2 != (0 : Int))) = true from c)] at h
   cases h; exact ⟨rfl, rfl⟩
  ·rw [cond_f (show ((v_u79 k l_ web_.1 web_.2 != (0 : Int))) = false from c)] at h
   exact (ev_u84 k l_ web_ k) l_ 0 ([]) _ h
 ·rw [if_neg q] at h; cases h
theorem cc_u84 (k : Nat) (l_ : List (T2).T) (web_ : T6.T) (h : (f_u84 k l_ web_).isSome = true) : CC Tryz.prog 26 (args_u84 l_ web_) (bin_u84 l_ web_) (res_u84 (v_u84 k l_ web_)) (bo_u84 l_ web_ (v_u84 k l_ web_)) := by
 cases e : f_u84 k l_ web_ with
 | none => rw [e] at h; cases h
 | some r => rw [show v_u84 k l_ web_ = r by simp [v_u84, e]]; exact of_u84 k l_ web_ r e

end
end Go.AM
namespace Go.AM
open Go Go.Proofs Go.IntKind

/-! ### cuts from the web -/
def baseS (W L : Int) : Ch := (0, W, false, if L > 0 then [(0, L, false)] else [])
/-- a roll's cut from the web, from that of its parent -/
def cutJ (r : Ro) (o : Ch × Int) : Ch × Int :=
 if o.2 ≠ 0 then ((0, 0, false, []), o.2)
 else if (comp r.2.2.2.2.2 o.1.2.2.2).2 ≠ 0 then ((0, 0, false, []), (comp r.2.2.2.2.2 o.1.2.2.2).2)
 else (((if o.1.2.2.1 = true then i64.wrap (i64.wrap (i64.wrap (o.1.1 + o.1.2.1) - r.2.2.1) - r.2.2.2.1) else i64.wrap (o.1.1 + r.2.2.1)),
  r.2.2.2.1, !(o.1.2.2.1 == r.2.2.2.2.1), (comp r.2.2.2.2.2 o.1.2.2.2).1), 0)
def cutS (l : List Ro) (W L : Int) : Nat → Int → Ch × Int
 | 0, _ => (baseS W L, 0)
 | n + 1, id => if id = 0 then (baseS W L, 0) else match look l id with
  | none => (baseS W L, 0)
  | some r => cutJ r (cutS l W L n r.2.1)
theorem Anc.cases {l : List Ro} {n : Nat} {id : Int} (h : Anc l n id) (h0 : id ≠ 0) : ∃ m r, n = m + 1 ∧ look l id = some r ∧ Anc l m r.2.1 := by
 cases h with
 | root => exact absurd rfl h0
 | step m _ r _ e a => exact ⟨m, r, rfl, e, a⟩

theorem fam_cut (W L : Int) (l : List Ro) (M : List (Int × Int)) (hM : RegOk M l) : ∀ (n : Nat) (id : Int) (k : Nat), Anc l n id → n + 1000 < k → f_u18 k W L l M id = some (cutS l W L n id) := by
 have hbase : ∀ k, f_u18 (k + 1) W L l M 0 = some (baseS W L, 0) := fun k => by
  rw [f_u18]
  show (bif decide (L > 0) then some (((0 : Int), (W, (false, [((0 : Int), L, false)]))), (0 : Int)) else some (((0 : Int), (W, (false, []))), (0 : Int))) = _
  unfold baseS
  by_cases h : L > 0
  ·rw [decide_eq_true h, if_pos h]; rfl
  ·rw [decide_eq_false h, if_neg h]; rfl
 intro n
 induction n with
 | zero =>
  intro id k ha hk
  obtain ⟨k, rfl⟩ : ∃ q, k = q + 1 := ⟨k - 1, by omega⟩
  by_cases h0 : id = 0
  ·rw [h0, hbase]; rfl
  ·obtain ⟨m, _, e, _⟩ := ha.cases h0
   cases e
 | succ n ih =>
  intro id k ha hk
  obtain ⟨k, rfl⟩ : ∃ q, k = q + 1 := ⟨k - 1, by omega⟩
  by_cases h0 : id = 0
  ·rw [h0, hbase]
   unfold cutS
   rw [if_pos rfl]
  ·obtain ⟨m, r, em, e, a⟩ := ha.cases h0
   cases em
   have hf := ih r.2.1 k a (by omega)
   obtain ⟨x, e1, e2, e3⟩ := (hM id).some e
   have hx : (x : Int) < (l.length : Int) := by omega
   rw [f_u18]
   unfold cutS w_u18
   rw [if_neg h0, beq_false_of_ne h0, cond_false, e, e1, Option.getD_some, if_pos ⟨by omega, hx⟩, Int.toNat_natCast, e3, hf, Option.isSome_some, if_pos rfl, Option.getD_some, iso_Compose_s k (by omega), iso_Compose_v k (by omega)]
   show _ = some (cutJ r (cutS l W L n r.2.1))
   generalize cutS l W L n r.2.1 = o
   unfold cutJ
   by_cases h1 : o.2 = 0
   ·have g1 : ¬ (o.2 ≠ 0) := fun h => h h1
    rw [show (o.2 != 0) = false by simp [h1], cond_false, Option.isSome_some, if_pos rfl]
    rw [if_neg g1]
    generalize comp r.2.2.2.2.2 o.1.2.2.2 = c
    by_cases h2 : c.2 = 0
    ·have g2 : ¬ (c.2 ≠ 0) := fun h => h h2
     rw [show (c.2 != 0) = false by simp [h2], cond_false, if_neg g2]
     cases h3 : o.1.2.2.1
     ·rfl
     ·rfl
    ·rw [bne_iff_ne.2 h2, if_pos h2]; rfl
   ·rw [bne_iff_ne.2 h1]
    rw [if_pos h1]; rfl
def cutFull (l : List Ro) (W L id : Int) : Ch × Int := if errS l W L id ≠ 0 then ((0, 0, false, []), errS l W L id) else cutS l W L 512 id
theorem fam_Cut_s (k : Nat) (hk : 300000 ≤ k) (l : List Ro) (web : Int × Int) (id : Int) : f_u5 k l web id = some (cutFull l web.1 web.2 id) := by
 obtain ⟨h1, h2⟩ := fam_find k hk l web id
 unfold f_u5 vA_u14 vB_u14 v_u14 cutFull
 by_cases h : errS l web.1 web.2 id = 0
 ·obtain ⟨M, m1, m2, e⟩ := h2 h
  obtain ⟨reg, kn⟩ := errS_zero.1 h
  have hi : ¬ (errS l web.1 web.2 id ≠ 0) := fun h' => h' h
  have hc := fam_cut web.1 web.2 l M m1 512 id k (reg.anc kn) (by omega)
  rw [e, if_neg hi]
  show (if (f_u18 k web.1 web.2 l M id).isSome = true then some ((v_u18 k web.1 web.2 l M id).1, (v_u18 k web.1 web.2 l M id).2) else none) = _
  unfold v_u18
  rw [hc]; rfl
 ·rw [h1 h, if_pos h]
  show (bif (errS l web.1 web.2 id != 0) then _ else _) = _
  rw [bne_iff_ne.2 h]; rfl
theorem fam_Cut_v (k : Nat) (hk : 300000 ≤ k) (l : List Ro) (web : Int × Int) (id : Int) : v_u5 k l web id = cutFull l web.1 web.2 id := by
 unfold v_u5; rw [fam_Cut_s k hk l web id]; rfl

/-! ### what is left of a roll -/
def restGo (id : Int) : List Ro → Int → Int
 | [], y => y
 | r :: t, y => restGo id t (if r.2.1 = id then i64.wrap (y - i64.wrap (r.2.2.2.1 * lenS r.2.2.2.2.2)) else y)
theorem fam_Rest_l (k : Nat) (hk : 2100 ≤ k) (W L : Int) (l : List Ro) (reg : Reg l W L) (M : List (Int × Int)) (hM : RegOk M l) (id z : Int) : ∀ (d i j : Nat) (y : Int), i + d = l.length → d < j →
  f_u21_1 k W L l M z id j l (l.length : Int) (i : Int) y = some (restGo id (l.drop i) y) := by
 intro d
 have hn := reg.num
 induction d with
 | zero =>
  intro i j y hi hj
  obtain ⟨j, rfl⟩ : ∃ q, j = q + 1 := ⟨j - 1, by omega⟩
  rw [f_u21_1, decide_eq_false (by omega : ¬ (i : Int) < (l.length : Int)), cond_false, List.drop_of_length_le (by omega)]; rfl
 | succ d ih =>
  intro i j y hi hj
  obtain ⟨j, rfl⟩ : ∃ q, j = q + 1 := ⟨j - 1, by omega⟩
  have hr : l.getD i T2.dflt ∈ l := getD_mem' _ _ _ (by omega)
  have ro := reg.ok.ro _ hr
  rw [f_u21_1, decide_eq_true (by omega : (i : Int) < (l.length : Int)), cond_true, if_pos ⟨by omega, by omega⟩, Int.toNat_natCast, wrapS i (by omega), drop_cons' l i T2.dflt (by omega), restGo, ih (i + 1) j _ (by omega) (by omega), ih (i + 1) j _ (by omega) (by omega)]
  generalize l.getD i T2.dflt = r at *
  have hp := ro.pos
  obtain ⟨a, b⟩ := fam_size k hk W L l M r.1 reg.wl hM (.inr ⟨r, ro.look⟩)
  have hs := size_some (W := W) (L := L) (by omega : r.1 ≠ 0) ro.look
  have hf : f_u1 k W L l M y r = some (i64.wrap (y - i64.wrap (r.2.2.2.1 * lenS r.2.2.2.2.2))) := by
   unfold f_u1; rw [a, b, hs]; rfl
  have hv : v_u1 k W L l M y r = i64.wrap (y - i64.wrap (r.2.2.2.1 * lenS r.2.2.2.2.2)) := by unfold v_u1; rw [hf]; rfl
  rw [hf, hv]
  by_cases h : r.2.1 = id
  ·rw [show (r.2.1 == id) = true from beq_iff_eq.2 h, cond_true, if_pos ⟨rfl, rfl⟩, if_pos h]
  ·rw [show (r.2.1 == id) = false from beq_false_of_ne h, cond_false, if_pos rfl, if_neg h]
def restE (l : List Ro) (W L id : Int) : Int × Int := if errS l W L id ≠ 0 then (0, errS l W L id) else (restGo id l (i64.wrap ((sizeS l W L id).1 * (sizeS l W L id).2)), 0)
theorem fam_Rest_s (k : Nat) (hk : 300000 ≤ k) (l : List Ro) (web : Int × Int) (id : Int) : f_u8 k l web id = some (restE l web.1 web.2 id) := by
 obtain ⟨h1, h2⟩ := fam_find k hk l web id
 unfold f_u8 vA_u14 vB_u14 v_u14 restE
 by_cases h : errS l web.1 web.2 id = 0
 ·obtain ⟨M, m1, m2, e⟩ := h2 h
  obtain ⟨reg, kn⟩ := errS_zero.1 h
  have hn := reg.num
  have hi : ¬ (errS l web.1 web.2 id ≠ 0) := fun h' => h' h
  obtain ⟨a, b⟩ := fam_size k (by omega) web.1 web.2 l M id m2 m1 kn
  rw [e, if_neg hi]
  show (if (f_u27 k web.1 web.2 l M id).isSome = true then (if (f_u19 k web.1 web.2 l M id).isSome = true then (if (f_u21 k web.1 web.2 l M (i64.wrap ((v_u27 k web.1 web.2 l M id).1 * (v_u27 k web.1 web.2 l M id).2)) id).isSome = true then some (v_u21 k web.1 web.2 l M (i64.wrap ((v_u27 k web.1 web.2 l M id).1 * (v_u27 k web.1 web.2 l M id).2)) id, (0 : Int)) else none) else none) else none) = _
  have hr := fam_Rest_l k (by omega) web.1 web.2 l reg M m1 id (i64.wrap ((sizeS l web.1 web.2 id).1 * (sizeS l web.1 web.2 id).2)) l.length 0 k (i64.wrap ((sizeS l web.1 web.2 id).1 * (sizeS l web.1 web.2 id).2)) (by omega) (by omega)
  unfold v_u21 f_u21
  rw [a, b, show f_u21_1 k web.1 web.2 l M (i64.wrap ((sizeS l web.1 web.2 id).1 * (sizeS l web.1 web.2 id).2)) id k l (l.length : Int) 0 (i64.wrap ((sizeS l web.1 web.2 id).1 * (sizeS l web.1 web.2 id).2)) = _ from hr]
  rfl
 ·rw [h1 h, if_pos h]
  show (bif (errS l web.1 web.2 id != 0) then _ else _) = _
  rw [bne_iff_ne.2 h]; rfl
theorem fam_Rest_v (k : Nat) (hk : 300000 ≤ k) (l : List Ro) (web : Int × Int) (id : Int) : v_u8 k l web id = restE l web.1 web.2 id := by
 unfold v_u8; rw [fam_Rest_s k hk l web id]; rfl
theorem ref42_Rest_l (k : Nat) (hk : 2100 ≤ k) (W L : Int) (l : List Ro) (reg : Reg l W L) (id : Int) : ∀ (d i j : Nat) (y : Int), i + d = l.length → d < j →
  f_u86_6 k j l id y (i : Int) = some (restGo id (l.drop i) y, 0) := by
 intro d
 have hn := reg.num
 induction d with
 | zero =>
  intro i j y hi hj
  obtain ⟨j, rfl⟩ : ∃ q, j = q + 1 := ⟨j - 1, by omega⟩
  rw [f_u86_6, decide_eq_false (by omega : ¬ (i : Int) < (l.length : Int)), cond_false, List.drop_of_length_le (by omega)]; rfl
 | succ d ih =>
  intro i j y hi hj
  obtain ⟨j, rfl⟩ : ∃ q, j = q + 1 := ⟨j - 1, by omega⟩
  have hr : l.getD i T2.dflt ∈ l := getD_mem' _ _ _ (by omega)
  have hc := (reg.ok.ro _ hr).cut.chk
  rw [f_u86_6, decide_eq_true (by omega : (i : Int) < (l.length : Int)), cond_true, if_pos ⟨by omega, by omega⟩, Int.toNat_natCast, wrapS i (by omega), drop_cons' l i T2.dflt (by omega), restGo, ih (i + 1) j _ (by omega) (by omega), ih (i + 1) j _ (by omega) (by omega)]
  generalize l.getD i T2.dflt = r at *
  rw [ref42_Long_s k hk _ hc, ref42_Long_v k hk _ hc]
  by_cases h : r.2.1 = id
  ·rw [show (r.2.1 == id) = true from beq_iff_eq.2 h, cond_true, if_pos ⟨by omega, by omega, by omega, by omega, rfl⟩, if_pos h]
  ·rw [show (r.2.1 == id) = false from beq_false_of_ne h, cond_false, if_neg h]
theorem ref42_Rest_s (k : Nat) (hk : 300000 ≤ k) (l : List Ro) (web : Int × Int) (id : Int) : f_u86 k l web id = some (restE l web.1 web.2 id) := by
 unfold f_u86 restE
 rw [ref42_Size_s k hk, ref42_Size_v k hk, Option.isSome_some, if_pos rfl]
 unfold sizeE
 by_cases h : errS l web.1 web.2 id = 0
 ·obtain ⟨reg, kn⟩ := errS_zero.1 h
  have hn := reg.num
  have hi : ¬ (errS l web.1 web.2 id ≠ 0) := fun h' => h' h
  rw [if_neg hi, if_neg hi]
  exact ref42_Rest_l k (by omega) web.1 web.2 l reg id l.length 0 k _ (by omega) (by omega)
 ·rw [if_pos h, if_pos h]
  show (bif (errS l web.1 web.2 id != 0) then _ else _) = _
  rw [bne_iff_ne.2 h]; rfl
theorem ref42_Rest_v (k : Nat) (hk : 300000 ≤ k) (l : List Ro) (web : Int × Int) (id : Int) : v_u86 k l web id = restE l web.1 web.2 id := by
 unfold v_u86; rw [ref42_Rest_s k hk l web id]; rfl

/-! ### leaves -/
def leafS (l : List Ro) (id : Int) : Bool := !(l.any fun r => r.2.1 == id)
theorem fam_leaf_l (k : Nat) (W L : Int) (l : List Ro) (M : List (Int × Int)) (id : Int) (hl : l.length ≤ 512) (z : Bool) : ∀ (d i j : Nat), i + d = l.length → d < j →
  f_u22_1 k z W L l M id j l (l.length : Int) (i : Int) false = if ((l.drop i).any fun r => r.2.1 == id) = true then some (.inl false) else some (.inr false) := by
 intro d
 induction d with
 | zero =>
  intro i j hi hj
  obtain ⟨j, rfl⟩ : ∃ q, j = q + 1 := ⟨j - 1, by omega⟩
  rw [f_u22_1, decide_eq_false (by omega : ¬ (i : Int) < (l.length : Int)), cond_false, List.drop_of_length_le (by omega), List.any_nil, if_neg (by decide)]
 | succ d ih =>
  intro i j hi hj
  obtain ⟨j, rfl⟩ : ∃ q, j = q + 1 := ⟨j - 1, by omega⟩
  rw [f_u22_1, decide_eq_true (by omega : (i : Int) < (l.length : Int)), cond_true, if_pos ⟨by omega, by omega⟩, Int.toNat_natCast, wrapS i (by omega), drop_cons' l i T2.dflt (by omega), List.any_cons, ih (i + 1) j (by omega) (by omega)]
  cases h : ((l.getD i T2.dflt).2.1 == id)
  ·rw [cond_false, if_pos rfl, Bool.false_or]
  ·rfl
theorem fam_leaf_s (k : Nat) (hk : 2100 ≤ k) (W L : Int) (l : List Ro) (M : List (Int × Int)) (id : Int) (hl : l.length ≤ 512) : f_u25 k W L l M id = some (leafS l id) := by
 have h := fam_leaf_l k W L l M id hl false l.length 0 k (by omega) (by omega)
 rw [List.drop_zero] at h
 unfold f_u25 vA_u22 v_u22 f_u22 leafS
 show (if (f_u19 k W L l M id).isSome = true then (bif Sum.isLeft (((f_u22_1 k false W L l M id k l (l.length : Int) 0 false)).getD _) then (if (f_u22_1 k false W L l M id k l (l.length : Int) 0 false).isSome = true then some (lft false ((f_u22_1 k false W L l M id k l (l.length : Int) 0 false).getD _)) else none) else (if (f_u22_1 k false W L l M id k l (l.length : Int) 0 false).isSome = true then some true else none)) else none) = _
 rw [show f_u22_1 k false W L l M id k l (l.length : Int) 0 false = _ from h]
 cases (l.any fun r => r.2.1 == id) <;> rfl
theorem fam_leaf_v (k : Nat) (hk : 2100 ≤ k) (W L : Int) (l : List Ro) (M : List (Int × Int)) (id : Int) (hl : l.length ≤ 512) : v_u25 k W L l M id = leafS l id := by
 unfold v_u25; rw [fam_leaf_s k hk W L l M id hl]; rfl
theorem ref42_Leaf_l (k : Nat) (l : List Ro) (id : Int) (hl : l.length ≤ 512) : ∀ (d i j : Nat), i + d = l.length → d < j →
  f_u83_2 k j l id (i : Int) = some (leafS (l.drop i) id) := by
 intro d
 induction d with
 | zero =>
  intro i j hi hj
  obtain ⟨j, rfl⟩ : ∃ q, j = q + 1 := ⟨j - 1, by omega⟩
  rw [f_u83_2, decide_eq_false (by omega : ¬ (i : Int) < (l.length : Int)), cond_false, List.drop_of_length_le (by omega)]
  rfl
 | succ d ih =>
  intro i j hi hj
  obtain ⟨j, rfl⟩ : ∃ q, j = q + 1 := ⟨j - 1, by omega⟩
  rw [f_u83_2, decide_eq_true (by omega : (i : Int) < (l.length : Int)), cond_true, if_pos ⟨by omega, by omega⟩, Int.toNat_natCast, wrapS i (by omega), drop_cons' l i T2.dflt (by omega), ih (i + 1) j (by omega) (by omega)]
  unfold leafS
  rw [List.any_cons]
  cases h : ((l.getD i T2.dflt).2.1 == id)
  ·rw [cond_false, Bool.false_or]
  ·rfl
theorem ref42_Leaf_s (k : Nat) (hk : 2100 ≤ k) (l : List Ro) (id : Int) (hl : l.length ≤ 512) : f_u83 k l id = some (leafS l id) := by
 unfold f_u83
 exact ref42_Leaf_l k l id hl l.length 0 k (by omega) (by omega)
theorem ref42_Leaf_v (k : Nat) (hk : 2100 ≤ k) (l : List Ro) (id : Int) (hl : l.length ≤ 512) : v_u83 k l id = leafS l id := by
 unfold v_u83; rw [ref42_Leaf_s k hk l id hl]; rfl

def leavesGo (l : List Ro) (t : List Ro) : List Int := (t.filter fun r => leafS l r.1).map (·.1)
theorem leavesGo_len (l t : List Ro) : (leavesGo l t).length ≤ t.length := by
 unfold leavesGo; rw [List.length_map]; exact List.length_filter_le _ _
theorem fam_Leaves_l (k : Nat) (hk : 2100 ≤ k) (W L : Int) (l : List Ro) (M : List (Int × Int)) (hl : l.length ≤ 512) : ∀ (d i j : Nat) (y : List Int), i + d = l.length → d < j → y.length ≤ i →
  f_u7_6 k j l (l.length : Int) (i : Int) W L l M y = some (y ++ leavesGo l (l.drop i), 0) := by
 intro d
 induction d with
 | zero =>
  intro i j y hi hj hy
  obtain ⟨j, rfl⟩ : ∃ q, j = q + 1 := ⟨j - 1, by omega⟩
  rw [f_u7_6, decide_eq_false (by omega : ¬ (i : Int) < (l.length : Int)), cond_false, List.drop_of_length_le (by omega)]
  show _ = some (y ++ [], 0)
  rw [List.append_nil]
 | succ d ih =>
  intro i j y hi hj hy
  obtain ⟨j, rfl⟩ : ∃ q, j = q + 1 := ⟨j - 1, by omega⟩
  rw [f_u7_6, decide_eq_true (by omega : (i : Int) < (l.length : Int)), cond_true, if_pos ⟨by omega, by omega⟩, Int.toNat_natCast, wrapS i (by omega), drop_cons' l i T2.dflt (by omega), fam_leaf_s k hk W L l M _ hl, fam_leaf_v k hk W L l M _ hl, Option.isSome_some, if_pos rfl, if_pos (by rw [List.length_singleton]; omega)]
  unfold leavesGo
  rw [List.filter_cons]
  cases h : leafS l (l.getD i T2.dflt).1
  ·rw [cond_false, ih (i + 1) j _ (by omega) (by omega) (by omega)]; rfl
  ·rw [cond_true, ih (i + 1) j _ (by omega) (by omega) (by rw [List.length_append, List.length_singleton]; omega), List.append_assoc]; rfl
def leavesE (l : List Ro) (W L : Int) : List Int × Int := if checkS l W L ≠ 0 then ([], checkS l W L) else (leavesGo l l, 0)
theorem fam_Leaves_s (k : Nat) (hk : 300000 ≤ k) (l : List Ro) (web : Int × Int) : f_u7 k l web = some (leavesE l web.1 web.2) := by
 obtain ⟨h1, h2⟩ := fam_open k hk l web
 unfold f_u7 vA_u15 vB_u15 v_u15 leavesE
 by_cases h : checkS l web.1 web.2 = 0
 ·obtain ⟨M, m1, m2, e⟩ := h2 h
  have hn := (checkS_zero.1 h).num
  rw [e, if_neg (fun h' : checkS l web.1 web.2 ≠ 0 => h' h)]
  exact fam_Leaves_l k (by omega) web.1 web.2 l M hn l.length 0 k [] (by omega) (by omega) (by simp)
 ·rw [h1 h, if_pos h]
  show (bif (checkS l web.1 web.2 != 0) then _ else _) = _
  rw [bne_iff_ne.2 h]; rfl
theorem fam_Leaves_v (k : Nat) (hk : 300000 ≤ k) (l : List Ro) (web : Int × Int) : v_u7 k l web = leavesE l web.1 web.2 := by
 unfold v_u7; rw [fam_Leaves_s k hk l web]; rfl
theorem ref42_Leaves_l (k : Nat) (hk : 2100 ≤ k) (l : List Ro) (hl : l.length ≤ 512) : ∀ (d i j : Nat) (y : List Int), i + d = l.length → d < j → y.length ≤ i →
  f_u84_6 k j l (i : Int) y = some (y ++ leavesGo l (l.drop i), 0) := by
 intro d
 induction d with
 | zero =>
  intro i j y hi hj hy
  obtain ⟨j, rfl⟩ : ∃ q, j = q + 1 := ⟨j - 1, by omega⟩
  rw [f_u84_6, decide_eq_false (by omega : ¬ (i : Int) < (l.length : Int)), cond_false, List.drop_of_length_le (by omega)]
  show _ = some (y ++ [], 0)
  rw [List.append_nil]
 | succ d ih =>
  intro i j y hi hj hy
  obtain ⟨j, rfl⟩ : ∃ q, j = q + 1 := ⟨j - 1, by omega⟩
  rw [f_u84_6, decide_eq_true (by omega : (i : Int) < (l.length : Int)), cond_true, Int.toNat_natCast, wrapS i (by omega), drop_cons' l i T2.dflt (by omega), ref42_Leaf_s k hk l _ hl, ref42_Leaf_v k hk l _ hl, if_pos ⟨by omega, by omega, rfl⟩, if_pos (by rw [List.length_singleton]; refine ⟨?_, ?_, ?_⟩ <;> omega)]
  unfold leavesGo
  rw [List.filter_cons]
  cases h : leafS l (l.getD i T2.dflt).1
  ·rw [cond_false, ih (i + 1) j _ (by omega) (by omega) (by omega)]; rfl
  ·rw [cond_true, ih (i + 1) j _ (by omega) (by omega) (by rw [List.length_append, List.length_singleton]; omega), List.append_assoc]; rfl
theorem ref42_Leaves_s (k : Nat) (hk : 300000 ≤ k) (l : List Ro) (web : Int × Int) : f_u84 k l web = some (leavesE l web.1 web.2) := by
 unfold f_u84 leavesE
 rw [ref42_Check_s k hk, ref42_Check_v k hk, Option.isSome_some, if_pos rfl]
 by_cases h : checkS l web.1 web.2 = 0
 ·have hn := (checkS_zero.1 h).num
  rw [show (checkS l web.1 web.2 != 0) = false by simp [h], cond_false, if_neg (fun h' : checkS l web.1 web.2 ≠ 0 => h' h)]
  exact ref42_Leaves_l k (by omega) l hn l.length 0 k [] (by omega) (by omega) (by simp)
 ·rw [bne_iff_ne.2 h, if_pos h]; rfl
theorem ref42_Leaves_v (k : Nat) (hk : 300000 ≤ k) (l : List Ro) (web : Int × Int) : v_u84 k l web = leavesE l web.1 web.2 := by
 unfold v_u84; rw [ref42_Leaves_s k hk l web]; rfl
end Go.AM
namespace Go.AM
open Go Go.IntKind

end Go.AM
namespace Go.AM
open Go Go.Proofs Go.IntKind
set_option linter.unusedVariables false
noncomputable section
end
end Go.AM
namespace Go.AM
open Go Go.Proofs Go.IntKind
set_option linter.unusedVariables false
noncomputable section
end
end Go.AM
namespace Go.AM
open Go Go.Proofs Go.IntKind
set_option linter.unusedVariables false
noncomputable section
end
end Go.AM
namespace Go.AM
open Go Go.Proofs Go.IntKind
set_option linter.unusedVariables false
noncomputable section
end
end Go.AM
namespace Go.AM
open Go Go.Proofs Go.IntKind
set_option linter.unusedVariables false
noncomputable section
end
end Go.AM
namespace Go.AM
open Go Go.Proofs Go.IntKind
set_option linter.unusedVariables false
noncomputable section
end
end Go.AM
namespace Go.AM
open Go Go.Proofs Go.IntKind

structure PtB (p : Pt) : Prop where
 a0 : 0 ≤ p.2.1
 a1 : p.2.1 ≤ 12000
 b0 : 0 ≤ p.2.2
 b1 : p.2.2 ≤ 17179869184
end Go.AM
namespace Go.AM
open Go Go.Proofs Go.IntKind
set_option linter.unusedVariables false
noncomputable section
abbrev R_u58 : Type := T5.T
def res_u58 (r : R_u58) : AV := .agg (rvs (enc T5 r))
def bo_u58 (x_ : T3.T) (r : R_u58) : List (Nat × Blk) := []
def args_u58 (x_ : T3.T) : List AV := [.agg (rvs (enc T3 x_))]
def bin_u58 (x_ : T3.T) : List Blk := []
def f_u58 (k : Nat) (x_ : T3.T) : Option R_u58 :=
 some x_.2
def v_u58 (k : Nat) (x_ : T3.T) : R_u58 := (f_u58 k x_).getD (T5).dflt
def K_u58 (k : Nat) : Calld := ⟨fun g xs => match g with
 | _ => none, fun g xs bs => match g with
 | _ => none⟩
theorem of_u58 (k : Nat) (x_ : T3.T) (r : R_u58) (h : f_u58 k x_ = some r) : CC Tryz.prog 11 (args_u58 x_) (bin_u58 x_) (res_u58 r) (bo_u58 x_ r) := by
 refine CC.of (fn := Tryz.f11) (by kernel_rfl) (by kernel_rfl) (by kernel_rfl) (by kernel_rfl) ?_
 unfold f_u58 at h
 refine Ev.tree hm (R := Rt) (K := (K_u58 k)) (l := []) (C := []) (E := [.autoB [2] true []]) (n := 1000) (T := .leaf (res_u58 x_.2) (bo_u58 x_ x_.2)) (by kernel_rfl) ?_
 cases h; exact ⟨rfl, rfl⟩
theorem cc_u58 (k : Nat) (x_ : T3.T) (h : (f_u58 k x_).isSome = true) : CC Tryz.prog 11 (args_u58 x_) (bin_u58 x_) (res_u58 (v_u58 k x_)) (bo_u58 x_ (v_u58 k x_)) := by
 cases e : f_u58 k x_ with
 | none => rw [e] at h; cases h
 | some r => rw [show v_u58 k x_ = r by simp [v_u58, e]]; exact of_u58 k x_ r e

end
end Go.AM
namespace Go.AM
open Go Go.Proofs Go.IntKind
set_option linter.unusedVariables false
noncomputable section
abbrev R_u56 : Type := T3.T
def res_u56 (r : R_u56) : AV := .agg (rvs (enc T3 r))
def bo_u56  (r : R_u56) : List (Nat × Blk) := []
def args_u56  : List AV := []
def bin_u56  : List Blk := []
def f_u56 (k : Nat)  : Option R_u56 :=
 some (([(1, 0, 0, 10, true, [(99, 100, true)]), (2, 1, 2, 5, true, [(99, 50, true)])], (10, 100)))
def v_u56 (k : Nat)  : R_u56 := (f_u56 k ).getD (T3).dflt
def K_u56 (k : Nat) : Calld := ⟨fun g xs => match g with
 | _ => none, fun g xs bs => match g with
 | _ => none⟩
theorem of_u56 (k : Nat)  (r : R_u56) (h : f_u56 k  = some r) : CC Tryz.prog 29 (args_u56 ) (bin_u56 ) (res_u56 r) (bo_u56  r) := by
 refine CC.of (fn := Tryz.f29) (by kernel_rfl) (by kernel_rfl) (by kernel_rfl) (by kernel_rfl) ?_
 unfold f_u56 at h
 refine Ev.tree hm (R := Rt) (K := (K_u56 k)) (l := []) (C := []) (E := [.frz 0 true T3, .autoB [0] true []]) (n := 1000) (T := .leaf (res_u56 (([(1, 0, 0, 10, true, [(99, 100, true)]), (2, 1, 2, 5, true, [(99, 50, true)])], (10, 100)))) (bo_u56  (([(1, 0, 0, 10, true, [(99, 100, true)]), (2, 1, 2, 5, true, [(99, 50, true)])], (10, 100))))) (by kernel_rfl) ?_
 cases h; exact ⟨rfl, rfl⟩
theorem cc_u56 (k : Nat)  (h : (f_u56 k ).isSome = true) : CC Tryz.prog 29 (args_u56 ) (bin_u56 ) (res_u56 (v_u56 k )) (bo_u56  (v_u56 k )) := by
 cases e : f_u56 k  with
 | none => rw [e] at h; cases h
 | some r => rw [show v_u56 k  = r by simp [v_u56, e]]; exact of_u56 k  r e

end
end Go.AM
namespace Go.AM
open Go Go.Proofs Go.IntKind
set_option linter.unusedVariables false
noncomputable section
abbrev R_u53 : Type := Bool
def res_u53 (r : R_u53) : AV := .r (.v (.bool r))
def bo_u53  (r : R_u53) : List (Nat × Blk) := []
def args_u53  : List AV := []
def bin_u53  : List Blk := []
def f_u53 (k : Nat)  : Option R_u53 :=
 if ((f_u56 k ).isSome = true) then
 if ((f_u58 k (v_u56 k)).isSome = true) ∧ ((f_u10 k (v_u56 k).1 (v_u58 k (v_u56 k)) (2, 0, 0)).isSome = true) then
 if ((f_u58 k (v_u56 k)).isSome = true) ∧ ((f_u11 k (v_u56 k).1 (v_u58 k (v_u56 k)) (2, 0, 0)).isSome = true) then
 if ((f_u58 k (v_u56 k)).isSome = true) ∧ ((f_u5 k (v_u56 k).1 (v_u58 k (v_u56 k)) 2).isSome = true) then
 if ((f_u58 k (v_u56 k)).isSome = true) ∧ ((f_u8 k (v_u56 k).1 (v_u58 k (v_u56 k)) 1).isSome = true) then
 bif ((v_u10 k (v_u56 k).1 (v_u58 k (v_u56 k)) ((2 : Int), (0 : Int), (0 : Int))).2 != (0 : Int) || (v_u11 k (v_u56 k).1 (v_u58 k (v_u56 k)) ((2 : Int), (0 : Int), (0 : Int))).2 != (0 : Int) || (v_u5 k (v_u56 k).1 (v_u58 k (v_u56 k)) (2 : Int)).2 != (0 : Int) || (v_u8 k (v_u56 k).1 (v_u58 k (v_u56 k)) (1 : Int)).2 != (0 : Int)) then
 some false
 else
 bif (!eqT T4 (v_u10 k (v_u56 k).1 (v_u58 k (v_u56 k)) ((2 : Int), (0 : Int), (0 : Int))).1 ((1 : Int), (6 : Int), (99 : Int)) || (!eqT T4 (v_u11 k (v_u56 k).1 (v_u58 k (v_u56 k)) ((2 : Int), (0 : Int), (0 : Int))).1 ((0 : Int), (3 : Int), (0 : Int))) || (v_u8 k (v_u56 k).1 (v_u58 k (v_u56 k)) (1 : Int)).1 != (750 : Int)) then
 some false
 else
 if (((v_u5 k (v_u56 k).1 (v_u58 k (v_u56 k)) (2 : Int)).1.1 == (3 : Int) && (v_u5 k (v_u56 k).1 (v_u58 k (v_u56 k)) (2 : Int)).1.2.1 == (5 : Int) && (! (v_u5 k (v_u56 k).1 (v_u58 k (v_u56 k)) (2 : Int)).1.2.2.1) && (↑ (List.length (v_u5 k (v_u56 k).1 (v_u58 k (v_u56 k)) (2 : Int)).1.2.2.2) : Int) == (1 : Int)) = true → (0 : Int) ≤ (0 : Int)) ∧ (((v_u5 k (v_u56 k).1 (v_u58 k (v_u56 k)) (2 : Int)).1.1 == (3 : Int) && (v_u5 k (v_u56 k).1 (v_u58 k (v_u56 k)) (2 : Int)).1.2.1 == (5 : Int) && (! (v_u5 k (v_u56 k).1 (v_u58 k (v_u56 k)) (2 : Int)).1.2.2.1) && (↑ (List.length (v_u5 k (v_u56 k).1 (v_u58 k (v_u56 k)) (2 : Int)).1.2.2.2) : Int) == (1 : Int)) = true → (0 : Int) < (↑ (List.length (v_u5 k (v_u56 k).1 (v_u58 k (v_u56 k)) (2 : Int)).1.2.2.2) : Int)) then
 some ((v_u5 k (v_u56 k).1 (v_u58 k (v_u56 k)) 2).1.1 == 3 && (v_u5 k (v_u56 k).1 (v_u58 k (v_u56 k)) 2).1.2.1 == 5 && (! (v_u5 k (v_u56 k).1 (v_u58 k (v_u56 k)) 2).1.2.2.1) && (↑ (List.length (v_u5 k (v_u56 k).1 (v_u58 k (v_u56 k)) 2).1.2.2.2) : Int) == 1 && eqT T0 (List.getD (v_u5 k (v_u56 k).1 (v_u58 k (v_u56 k)) 2).1.2.2.2 (Int.toNat 0) T0.dflt) (0, 50, false))
 else none
 else none
 else none
 else none
 else none
 else none
def v_u53 (k : Nat)  : R_u53 := (f_u53 k ).getD false
def K_u53 (k : Nat) : Calld := ⟨fun g xs => match g with
 | 16 => match xs with
  | [_, _, _] => some [false, false, false]
  | _ => none
 | 10 => match xs with
  | [_, _, _] => some [false, false, false]
  | _ => none
 | 14 => match xs with
  | [_, _, _] => some [false, false, false]
  | _ => none
 | 23 => match xs with
  | [_, _, _] => some [false, false, false]
  | _ => none
 | 11 => match xs with
  | [_] => some [false]
  | _ => none
 | 29 => match xs with
  | [] => some []
  | _ => none
 | _ => none, fun g xs bs => match g with
 | 16 => match xs, bs with
  | [.r (.ro tl__ ql_), .agg qweb_, .r (.v (.int .i64 id_))], [] => (castL tl__ T2 ql_).bind fun l_ => (decS [] T5 qweb_).bind fun web_ => some (.one (res_u5 (v_u5 k l_ web_ id_), bo_u5 l_ web_ id_ (v_u5 k l_ web_ id_)))
  | _, _ => none
 | 10 => match xs, bs with
  | [.r (.ro tl__ ql_), .agg qweb_, .agg qp_], [] => (castL tl__ T2 ql_).bind fun l_ => (decS [] T5 qweb_).bind fun web_ => (decS [] T4 qp_).bind fun p_ => some (.one (res_u10 (v_u10 k l_ web_ p_), bo_u10 l_ web_ p_ (v_u10 k l_ web_ p_)))
  | _, _ => none
 | 14 => match xs, bs with
  | [.r (.ro tl__ ql_), .agg qweb_, .agg qp_], [] => (castL tl__ T2 ql_).bind fun l_ => (decS [] T5 qweb_).bind fun web_ => (decS [] T4 qp_).bind fun p_ => some (.one (res_u11 (v_u11 k l_ web_ p_), bo_u11 l_ web_ p_ (v_u11 k l_ web_ p_)))
  | _, _ => none
 | 23 => match xs, bs with
  | [.r (.ro tl__ ql_), .agg qweb_, .r (.v (.int .i64 id_))], [] => (castL tl__ T2 ql_).bind fun l_ => (decS [] T5 qweb_).bind fun web_ => some (.one (res_u8 (v_u8 k l_ web_ id_), bo_u8 l_ web_ id_ (v_u8 k l_ web_ id_)))
  | _, _ => none
 | 11 => match xs, bs with
  | [.agg qx_], [] => (decS [] T3 qx_).bind fun x_ => some (.one (res_u58 (v_u58 k x_), bo_u58 x_ (v_u58 k x_)))
  | _, _ => none
 | 29 => match xs, bs with
  | [], [] => some (.one (res_u56 (v_u56 k ), bo_u56  (v_u56 k )))
  | _, _ => none
 | _ => none⟩
theorem of_u53 (k : Nat)  (r : R_u53) (h : f_u53 k  = some r) : CC Tryz.prog 9 (args_u53 ) (bin_u53 ) (res_u53 r) (bo_u53  r) := by
 refine CC.of (fn := Tryz.f9) (by kernel_rfl) (by kernel_rfl) (by kernel_rfl) (by kernel_rfl) ?_
 unfold f_u53 at h
 refine Ev.tree hm (R := Rt) (K := (K_u53 k)) (l := []) (C := []) (E := [.autoB [0] true []]) (n := 1000) (T := .need [CC Tryz.prog 29 (args_u56 ) (bin_u56 ) (res_u56 (v_u56 k )) (bo_u56  (v_u56 k ))] (.need [CC Tryz.prog 11 (args_u58 (v_u56 k)) (bin_u58 (v_u56 k)) (res_u58 (v_u58 k (v_u56 k))) (bo_u58 (v_u56 k) (v_u58 k (v_u56 k))), CC Tryz.prog 10 (args_u10 (v_u56 k).1 (v_u58 k (v_u56 k)) (2, 0, 0)) (bin_u10 (v_u56 k).1 (v_u58 k (v_u56 k)) (2, 0, 0)) (res_u10 (v_u10 k (v_u56 k).1 (v_u58 k (v_u56 k)) (2, 0, 0))) (bo_u10 (v_u56 k).1 (v_u58 k (v_u56 k)) (2, 0, 0) (v_u10 k (v_u56 k).1 (v_u58 k (v_u56 k)) (2, 0, 0)))] (.need [CC Tryz.prog 11 (args_u58 (v_u56 k)) (bin_u58 (v_u56 k)) (res_u58 (v_u58 k (v_u56 k))) (bo_u58 (v_u56 k) (v_u58 k (v_u56 k))), CC Tryz.prog 14 (args_u11 (v_u56 k).1 (v_u58 k (v_u56 k)) (2, 0, 0)) (bin_u11 (v_u56 k).1 (v_u58 k (v_u56 k)) (2, 0, 0)) (res_u11 (v_u11 k (v_u56 k).1 (v_u58 k (v_u56 k)) (2, 0, 0))) (bo_u11 (v_u56 k).1 (v_u58 k (v_u56 k)) (2, 0, 0) (v_u11 k (v_u56 k).1 (v_u58 k (v_u56 k)) (2, 0, 0)))] (.need [CC Tryz.prog 11 (args_u58 (v_u56 k)) (bin_u58 (v_u56 k)) (res_u58 (v_u58 k (v_u56 k))) (bo_u58 (v_u56 k) (v_u58 k (v_u56 k))), CC Tryz.prog 16 (args_u5 (v_u56 k).1 (v_u58 k (v_u56 k)) 2) (bin_u5 (v_u56 k).1 (v_u58 k (v_u56 k)) 2) (res_u5 (v_u5 k (v_u56 k).1 (v_u58 k (v_u56 k)) 2)) (bo_u5 (v_u56 k).1 (v_u58 k (v_u56 k)) 2 (v_u5 k (v_u56 k).1 (v_u58 k (v_u56 k)) 2))] (.need [CC Tryz.prog 11 (args_u58 (v_u56 k)) (bin_u58 (v_u56 k)) (res_u58 (v_u58 k (v_u56 k))) (bo_u58 (v_u56 k) (v_u58 k (v_u56 k))), CC Tryz.prog 23 (args_u8 (v_u56 k).1 (v_u58 k (v_u56 k)) 1) (bin_u8 (v_u56 k).1 (v_u58 k (v_u56 k)) 1) (res_u8 (v_u8 k (v_u56 k).1 (v_u58 k (v_u56 k)) 1)) (bo_u8 (v_u56 k).1 (v_u58 k (v_u56 k)) 1 (v_u8 k (v_u56 k).1 (v_u58 k (v_u56 k)) 1))] (.test (((v_u10 k (v_u56 k).1 (v_u58 k (v_u56 k)) ((2 : Int), (0 : Int), (0 : Int))).2 != (0 : Int) || (v_u11 k (v_u56 k).1 (v_u58 k (v_u56 k)) ((2 : Int), (0 : Int), (0 : Int))).2 != (0 : Int) || (v_u5 k (v_u56 k).1 (v_u58 k (v_u56 k)) (2 : Int)).2 != (0 : Int) || (v_u8 k (v_u56 k).1 (v_u58 k (v_u56 k)) (1 : Int)).2 != (0 : Int))) (.leaf (res_u53 false) (bo_u53  false)) (.test ((!eqT T4 (v_u10 k (v_u56 k).1 (v_u58 k (v_u56 k)) ((2 : Int), (0 : Int), (0 : Int))).1 ((1 : Int), (6 : Int), (99 : Int)) || (!eqT T4 (v_u11 k (v_u56 k).1 (v_u58 k (v_u56 k)) ((2 : Int), (0 : Int), (0 : Int))).1 ((0 : Int), (3 : Int), (0 : Int))) || (v_u8 k (v_u56 k).1 (v_u58 k (v_u56 k)) (1 : Int)).1 != (750 : Int))) (.leaf (res_u53 false) (bo_u53  false)) (.need [((v_u5 k (v_u56 k).1 (v_u58 k (v_u56 k)) (2 : Int)).1.1 == (3 : Int) && (v_u5 k (v_u56 k).1 (v_u58 k (v_u56 k)) (2 : Int)).1.2.1 == (5 : Int) && (! (v_u5 k (v_u56 k).1 (v_u58 k (v_u56 k)) (2 : Int)).1.2.2.1) && (↑ (List.length (v_u5 k (v_u56 k).1 (v_u58 k (v_u56 k)) (2 : Int)).1.2.2.2) : Int) == (1 : Int)) = true → (0 : Int) ≤ (0 : Int), ((v_u5 k (v_u56 k).1 (v_u58 k (v_u56 k)) (2 : Int)).1.1 == (3 : Int) && (v_u5 k (v_u56 k).1 (v_u58 k (v_u56 k)) (2 : Int)).1.2.1 == (5 : Int) && (! (v_u5 k (v_u56 k).1 (v_u58 k (v_u56 k)) (2 : Int)).1.2.2.1) && (↑ (List.length (v_u5 k (v_u56 k).1 (v_u58 k (v_u56 k)) (2 : Int)).1.2.2.2) : Int) == (1 : Int)) = true → (0 : Int) < (↑ (List.length (v_u5 k (v_u56 k).1 (v_u58 k (v_u56 k)) (2 : Int)).1.2.2.2) : Int)] (.leaf (res_u53 ((v_u5 k (v_u56 k).1 (v_u58 k (v_u56 k)) 2).1.1 == 3 && (v_u5 k (v_u56 k).1 (v_u58 k (v_u56 k)) 2).1.2.1 == 5 && (! (v_u5 k (v_u56 k).1 (v_u58 k (v_u56 k)) 2).1.2.2.1) && (↑ (List.length (v_u5 k (v_u56 k).1 (v_u58 k (v_u56 k)) 2).1.2.2.2) : Int) == 1 && eqT T0 (List.getD (v_u5 k (v_u56 k).1 (v_u58 k (v_u56 k)) 2).1.2.2.2 (Int.toNat 0) T0.dflt) (0, 50, false))) (bo_u53  ((v_u5 k (v_u56 k).1 (v_u58 k (v_u56 k)) 2).1.1 == 3 && (v_u5 k (v_u56 k).1 (v_u58 k (v_u56 k)) 2).1.2.1 == 5 && (! (v_u5 k (v_u56 k).1 (v_u58 k (v_u56 k)) 2).1.2.2.1) && (↑ (List.length (v_u5 k (v_u56 k).1 (v_u58 k (v_u56 k)) 2).1.2.2.2) : Int) == 1 && eqT T0 (List.getD (v_u5 k (v_u56 k).1 (v_u58 k (v_u56 k)) 2).1.2.2.2 (Int.toNat 0) T0.dflt) (0, 50, false)))))))))))) (by kernel_rfl) ?_
 by_cases q : ((f_u56 k ).isSome = true)
 ·rw [if_pos q] at h
  refine ⟨(conjC (cc_u56 k  q) conj0), ?_⟩
  by_cases q : ((f_u58 k (v_u56 k)).isSome = true) ∧ ((f_u10 k (v_u56 k).1 (v_u58 k (v_u56 k)) (2, 0, 0)).isSome = true)
  ·rw [if_pos q] at h
   refine ⟨(conjC (cc_u58 k (v_u56 k) q.1) (conjC (cc_u10 k (v_u56 k).1 (v_u58 k (v_u56 k)) (2, 0, 0) q.2) conj0)), ?_⟩
   by_cases q : ((f_u58 k (v_u56 k)).isSome = true) ∧ ((f_u11 k (v_u56 k).1 (v_u58 k (v_u56 k)) (2, 0, 0)).isSome = true)
   ·rw [if_pos q] at h
    refine ⟨(conjC (cc_u58 k (v_u56 k) q.1) (conjC (cc_u11 k (v_u56 k).1 (v_u58 k (v_u56 k)) (2, 0, 0) q.2) conj0)), ?_⟩
    by_cases q : ((f_u58 k (v_u56 k)).isSome = true) ∧ ((f_u5 k (v_u56 k).1 (v_u58 k (v_u56 k)) 2).isSome = true)
    ·rw [if_pos q] at h
     refine ⟨(conjC (cc_u58 k (v_u56 k) q.1) (conjC (cc_u5 k (v_u56 k).1 (v_u58 k (v_u56 k)) 2 q.2) conj0)), ?_⟩
     by_cases q : ((f_u58 k (v_u56 k)).isSome = true) ∧ ((f_u8 k (v_u56 k).1 (v_u58 k (v_u56 k)) 1).isSome = true)
     ·rw [if_pos q] at h
      refine ⟨(conjC (cc_u58 k (v_u56 k) q.1) (conjC (cc_u8 k (v_u56 k).1 (v_u58 k (v_u56 k)) 1 q.2) conj0)), ?_⟩
      refine ⟨fun c => ?_, fun c => ?_⟩
      ·rw [cond_t (show (((v_u10 k (v_u56 k).1 (v_u58 k (v_u56 k)) ((2 : Int), (0 : Int), (0 : Int))).2 != (0 : Int) || (v_u11 k (v_u56 k).1 (v_u58 k (v_u56 k)) ((2 : Int), (0 : Int), (0 : Int))).2 != (0 : Int) || (v_u5 k (v_u56 k).1 (v_u58 k (v_u56 k)) (2 : Int)).2 != (0 : Int) || (v_u8 k (v_u56 k).1 (v_u58 k (v_u56 k)) (1 : Int)).2 != (0 : Int))) = true from c)] at h
       cases h; exact ⟨rfl, rfl⟩
      ·rw [cond_f (show (((v_u10 k (v_u56 k).1 (v_u58 k (v_u56 k)) ((2 : Int), (0 : Int), (0 : Int))).2 != (0 : Int) || (v_u11 k (v_u56 k).1 (v_u58 k (v_u56 k)) ((2 : Int), (0 : Int), (0 : Int))).2 != (0 : Int) || (v_u5 k (v_u56 k).1 (v_u58 k (v_u56 k)) (2 : Int)).2 != (0 : Int) || (v_u8 k (v_u56 k).1 (v_u58 k (v_u56 k)) (1 : Int)).2 != (0 : Int))) = false from c)] at h
       refine ⟨fun c => ?_, fun c => ?_⟩
       ·rw [cond_t (show ((!eqT T4 (v_u10 k (v_u56 k).1 (v_u58 k (v_u56 k)) ((2 : Int), (0 : Int), (0 : Int))).1 ((1 : Int), (6 : Int), (99 : Int)) || (!eqT T4 (v_u11 k (v_u56 k).1 (v_u58 k (v_u56 k)) ((2 : Int), (0 : Int), (0 : Int))).1 ((0 : Int), (3 : Int), (0 : Int))) || (v_u8 k (v_u56 k).1 (v_u58 k (v_u56 k)) (1 : Int)).1 != (750 : Int))) = true from c)] at h
        cases h; exact ⟨rfl, rfl⟩
       ·rw [cond_f (show ((!eqT T4 (v_u10 k (v_u56 k).1 (v_u58 k (v_u56 k)) ((2 : Int), (0 : Int), (0 : Int))).1 ((1 : Int), (6 : Int), (99 : Int)) || (!eqT T4 (v_u11 k (v_u56 k).1 (v_u58 k (v_u56 k)) ((2 : Int), (0 : Int), (0 : Int))).1 ((0 : Int), (3 : Int), (0 : Int))) || (v_u8 k (v_u56 k).1 (v_u58 k (v_u56 k)) (1 : Int)).1 != (750 : Int))) = false from c)] at h
        by_cases q : (((v_u5 k (v_u56 k).1 (v_u58 k (v_u56 k)) (2 : Int)).1.1 == (3 : Int) && (v_u5 k (v_u56 k).1 (v_u58 k (v_u56 k)) (2 : Int)).1.2.1 == (5 : Int) && (! (v_u5 k (v_u56 k).1 (v_u58 k (v_u56 k)) (2 : Int)).1.2.2.1) && (↑ (List.length (v_u5 k (v_u56 k).1 (v_u58 k (v_u56 k)) (2 : Int)).1.2.2.2) : Int) == (1 : Int)) = true → (0 : Int) ≤ (0 : Int)) ∧ (((v_u5 k (v_u56 k).1 (v_u58 k (v_u56 k)) (2 : Int)).1.1 == (3 : Int) && (v_u5 k (v_u56 k).1 (v_u58 k (v_u56 k)) (2 : Int)).1.2.1 == (5 : Int) && (! (v_u5 k (v_u56 k).1 (v_u58 k (v_u56 k)) (2 : Int)).1.2.2.1) && (↑ (List.length (v_u5 k (v_u56 k).1 (v_u58 k (v_u56 k)) (2 : Int)).1.2.2.2) : Int) == (1 : Int)) = true → (0 : Int) < (↑ (List.length (v_u5 k (v_u56 k).1 (v_u58 k (v_u56 k)) (2 : Int)).1.2.2.2) : Int))
        ·rw [if_pos q] at h
         refine ⟨(conjC q.1 (conjC q.2 conj0)), ?_⟩
         cases h; exact ⟨rfl, rfl⟩
        ·rw [if_neg q] at h; cases h
     ·rw [if_neg q] at h; cases h
    ·rw [if_neg q] at h; cases h
   ·rw [if_neg q] at h; cases h
  ·rw [if_neg q] at h; cases h
 ·rw [if_neg q] at h; cases h
theorem cc_u53 (k : Nat)  (h : (f_u53 k ).isSome = true) : CC Tryz.prog 9 (args_u53 ) (bin_u53 ) (res_u53 (v_u53 k )) (bo_u53  (v_u53 k )) := by
 cases e : f_u53 k  with
 | none => rw [e] at h; cases h
 | some r => rw [show v_u53 k  = r by simp [v_u53, e]]; exact of_u53 k  r e

end
end Go.AM
namespace Go.AM
open Go Go.Proofs Go.IntKind
set_option linter.unusedVariables false
noncomputable section
end
end Go.AM
namespace Go.AM
open Go Go.Proofs Go.IntKind
set_option linter.unusedVariables false
noncomputable section
abbrev R_u55 : Type := Bool
def res_u55 (r : R_u55) : AV := .r (.v (.bool r))
def bo_u55 (x_ : T3.T) (r : R_u55) : List (Nat × Blk) := []
def args_u55 (x_ : T3.T) : List AV := [.agg (rvs (enc T3 x_))]
def bin_u55 (x_ : T3.T) : List Blk := []
def st_u55_4 (y0 : List (T2).T) (y1 : Int) (y2 : Int) : St := ⟨mkS 22 [(10, .r (.ro T2 y0)), (11, .r (.v (.int .i64 y1))), (12, .r (.v (.int .i64 y2)))], []⟩
def f_u55_4 (k : Nat) : Nat → List (T2).T → Int → Int → Option R_u55
 | 0, _, _, _ => none
 | j + 1, y0, y1, y2 =>
 bif (decide (y2 < y1)) then
 if (0 ≤ y2) ∧ (y2 < (↑y0.length : Int)) then
 bif (decide ((↑ (List.length (y0.getD y2.toNat T2.dflt).2.2.2.2.2) : Int) > (20 : Int))) then
 some true
 else
 f_u55_4 k j y0 y1 ((i64.wrap (y2 + 1)))
 else none
 else
 some false
def f_u55 (k : Nat) (x_ : T3.T) : Option R_u55 :=
 bif (decide ((↑ (List.length x_.1) : Int) > (30 : Int))) then
 some true
 else
 f_u55_4 k k x_.1 ((↑ (List.length x_.1) : Int)) 0
def v_u55 (k : Nat) (x_ : T3.T) : R_u55 := (f_u55 k x_).getD false
def K_u55 (k : Nat) : Calld := ⟨fun g xs => match g with
 | _ => none, fun g xs bs => match g with
 | _ => none⟩
theorem ev_u55 (k : Nat) (x_ : T3.T) : ∀ j, (∀ (y0 : List (T2).T) (y1 : Int) (y2 : Int) (r : R_u55), f_u55_4 k j y0 y1 y2 = some r → Ev Tryz.prog Tryz.f8 0 (placeAt Tryz.f8 4) (st_u55_4 y0 y1 y2) (res_u55 r) (bo_u55 x_ r))
 | 0 => by
  intros; rename_i h; simp [f_u55_4] at h
 | j + 1 => by
  have ih := ev_u55 k x_ j
  ·intro y0 y1 y2 r h
   rw [f_u55_4] at h
   refine Ev.tree hm (R := Rt) (K := (K_u55 k)) (l := []) (C := [(4, [.autoB [10, 11, 12] false []])]) (E := [.autoB [2] true []]) (n := 1000) (T := .test ((decide (y2 < y1))) (.need [0 ≤ y2, y2 < (↑y0.length : Int)] (.test ((decide ((↑ (List.length (y0.getD y2.toNat T2.dflt).2.2.2.2.2) : Int) > (20 : Int)))) (.leaf (res_u55 true) (bo_u55 x_ true)) (.cut 4 (placeAt Tryz.f8 4) (st_u55_4 y0 y1 ((i64.wrap (y2 + 1))))))) (.leaf (res_u55 false) (bo_u55 x_ false))) (by kernel_rfl) ?_
   refine ⟨fun c => ?_, fun c => ?_⟩
   ·rw [cond_t (show ((decide (y2 < y1))) = true from c)] at h
    by_cases q : (0 ≤ y2) ∧ (y2 < (↑y0.length : Int))
    ·rw [if_pos q] at h
     refine ⟨(conjC q.1 (conjC q.2 conj0)), ?_⟩
     refine ⟨fun c => ?_, fun c => ?_⟩
     ·rw [cond_t (show ((decide ((↑ (List.length (y0.getD y2.toNat T2.dflt).2.2.2.2.2) : Int) > (20 : Int)))) = true from c)] at h
      cases h; exact ⟨rfl, rfl⟩
     ·rw [cond_f (show ((decide ((↑ (List.length (y0.getD y2.toNat T2.dflt).2.2.2.2.2) : Int) > (20 : Int)))) = false from c)] at h
      exact ih y0 y1 ((i64.wrap (y2 + 1))) _ h
    ·rw [if_neg q] at h; cases h
   ·rw [cond_f (show ((decide (y2 < y1))) = false from c)] at h
    cases h; exact ⟨rfl, rfl⟩
theorem of_u55 (k : Nat) (x_ : T3.T) (r : R_u55) (h : f_u55 k x_ = some r) : CC Tryz.prog 8 (args_u55 x_) (bin_u55 x_) (res_u55 r) (bo_u55 x_ r) := by
 refine CC.of (fn := Tryz.f8) (by kernel_rfl) (by kernel_rfl) (by kernel_rfl) (by kernel_rfl) ?_
 unfold f_u55 at h
 refine Ev.tree hm (R := Rt) (K := (K_u55 k)) (l := []) (C := [(4, [.autoB [10, 11, 12] false []])]) (E := [.autoB [2] true []]) (n := 1000) (T := .test ((decide ((↑ (List.length x_.1) : Int) > (30 : Int)))) (.leaf (res_u55 true) (bo_u55 x_ true)) (.cut 4 (placeAt Tryz.f8 4) (st_u55_4 x_.1 ((↑ (List.length x_.1) : Int)) 0))) (by kernel_rfl) ?_
 refine ⟨fun c => ?_, fun c => ?_⟩
 ·rw [cond_t (show ((decide ((↑ (List.length x_.1) : Int) > (30 : Int)))) = true from c)] at h
  cases h; exact ⟨rfl, rfl⟩
 ·rw [cond_f (show ((decide ((↑ (List.length x_.1) : Int) > (30 : Int)))) = false from c)] at h
  exact (ev_u55 k x_ k) x_.1 ((↑ (List.length x_.1) : Int)) 0 _ h
theorem cc_u55 (k : Nat) (x_ : T3.T) (h : (f_u55 k x_).isSome = true) : CC Tryz.prog 8 (args_u55 x_) (bin_u55 x_) (res_u55 (v_u55 k x_)) (bo_u55 x_ (v_u55 k x_)) := by
 cases e : f_u55 k x_ with
 | none => rw [e] at h; cases h
 | some r => rw [show v_u55 k x_ = r by simp [v_u55, e]]; exact of_u55 k x_ r e

end
end Go.AM
namespace Go.AM
open Go Go.Proofs Go.IntKind
set_option linter.unusedVariables false
noncomputable section
abbrev R_u57 : Type := T6.T
def res_u57 (r : R_u57) : AV := .agg (rvs (enc T6 r))
def bo_u57 (x_ : T3.T) (r : R_u57) : List (Nat × Blk) := []
def args_u57 (x_ : T3.T) : List AV := [.agg (rvs (enc T3 x_))]
def bin_u57 (x_ : T3.T) : List Blk := []
def f_u57 (k : Nat) (x_ : T3.T) : Option R_u57 :=
 some x_.2
def v_u57 (k : Nat) (x_ : T3.T) : R_u57 := (f_u57 k x_).getD (T6).dflt
def K_u57 (k : Nat) : Calld := ⟨fun g xs => match g with
 | _ => none, fun g xs bs => match g with
 | _ => none⟩
theorem of_u57 (k : Nat) (x_ : T3.T) (r : R_u57) (h : f_u57 k x_ = some r) : CC Tryz.prog 13 (args_u57 x_) (bin_u57 x_) (res_u57 r) (bo_u57 x_ r) := by
 refine CC.of (fn := Tryz.f13) (by kernel_rfl) (by kernel_rfl) (by kernel_rfl) (by kernel_rfl) ?_
 unfold f_u57 at h
 refine Ev.tree hm (R := Rt) (K := (K_u57 k)) (l := []) (C := []) (E := [.autoB [2] true []]) (n := 1000) (T := .leaf (res_u57 x_.2) (bo_u57 x_ x_.2)) (by kernel_rfl) ?_
 cases h; exact ⟨rfl, rfl⟩
theorem cc_u57 (k : Nat) (x_ : T3.T) (h : (f_u57 k x_).isSome = true) : CC Tryz.prog 13 (args_u57 x_) (bin_u57 x_) (res_u57 (v_u57 k x_)) (bo_u57 x_ (v_u57 k x_)) := by
 cases e : f_u57 k x_ with
 | none => rw [e] at h; cases h
 | some r => rw [show v_u57 k x_ = r by simp [v_u57, e]]; exact of_u57 k x_ r e

end
end Go.AM
namespace Go.AM
open Go Go.Proofs Go.IntKind
set_option linter.unusedVariables false
noncomputable section
end
end Go.AM
namespace Go.AM
open Go Go.Proofs Go.IntKind
set_option linter.unusedVariables false
noncomputable section
end
end Go.AM
namespace Go.AM
open Go Go.Proofs Go.IntKind
set_option linter.unusedVariables false
noncomputable section
end
end Go.AM
namespace Go.AM
open Go Go.Proofs Go.IntKind
set_option linter.unusedVariables false
noncomputable section
end
end Go.AM
namespace Go.AM
open Go Go.Proofs Go.IntKind
set_option linter.unusedVariables false
noncomputable section
abbrev R_u52 : Type := Bool
def res_u52 (r : R_u52) : AV := .r (.v (.bool r))
def bo_u52 (x_ : T3.T) (id_ : Int) (r : R_u52) : List (Nat × Blk) := []
def args_u52 (x_ : T3.T) (id_ : Int) : List AV := [.agg (rvs (enc T3 x_)), .r (.v (.int .i64 id_))]
def bin_u52 (x_ : T3.T) (id_ : Int) : List Blk := []
def st_u52_14 (y0 : List (I).T) (y1 : List (I).T) (y2 : Int) (y3 : Int) : St := ⟨mkS 124 [(15, .r (.ro I y0)), (16, .r (.ro I y1)), (109, .r (.v (.int .i64 y2))), (110, .r (.v (.int .i64 y3)))], []⟩
def f_u52_14 (k : Nat) : Nat → List (I).T → List (I).T → Int → Int → Option R_u52
 | 0, _, _, _, _ => none
 | j + 1, y0, y1, y2, y3 =>
 bif (decide (y3 < y2)) then
 if (0 ≤ y3) ∧ (y3 < (↑y0.length : Int)) ∧ (0 ≤ y3) ∧ (y3 < (↑y1.length : Int)) then
 bif (y0.getD y3.toNat I.dflt != y1.getD y3.toNat I.dflt) then
 some false
 else
 f_u52_14 k j y0 y1 y2 ((i64.wrap (y3 + 1)))
 else none
 else
 if ((f_u53 k ).isSome = true) then
 some (v_u53 k)
 else none
def f_u52 (k : Nat) (x_ : T3.T) (id_ : Int) : Option R_u52 :=
 if ((f_u55 k x_).isSome = true) then
 bif (v_u55 k x_) then
 if ((f_u53 k ).isSome = true) then
 some (v_u53 k)
 else none
 else
 if ((f_u58 k x_).isSome = true) ∧ ((f_u9 k x_.1 (v_u58 k x_) id_).isSome = true) then
 if ((f_u57 k x_).isSome = true) ∧ ((f_u87 k x_.1 (v_u57 k x_) id_).isSome = true) then
 if ((f_u58 k x_).isSome = true) ∧ ((f_u8 k x_.1 (v_u58 k x_) id_).isSome = true) then
 if ((f_u57 k x_).isSome = true) ∧ ((f_u86 k x_.1 (v_u57 k x_) id_).isSome = true) then
 bif ((v_u9 k x_.1 (v_u58 k x_) id_).1 != (v_u87 k x_.1 (v_u57 k x_) id_).1 || (v_u9 k x_.1 (v_u58 k x_) id_).2.1 != (v_u87 k x_.1 (v_u57 k x_) id_).2.1 || (v_u9 k x_.1 (v_u58 k x_) id_).2.2 != (v_u87 k x_.1 (v_u57 k x_) id_).2.2 || (v_u8 k x_.1 (v_u58 k x_) id_).1 != (v_u86 k x_.1 (v_u57 k x_) id_).1 || (v_u8 k x_.1 (v_u58 k x_) id_).2 != (v_u86 k x_.1 (v_u57 k x_) id_).2) then
 some false
 else
 if ((f_u58 k x_).isSome = true) ∧ ((f_u7 k x_.1 (v_u58 k x_)).isSome = true) then
 if ((f_u57 k x_).isSome = true) ∧ ((f_u84 k x_.1 (v_u57 k x_)).isSome = true) then
 bif ((v_u7 k x_.1 (v_u58 k x_)).2 != (v_u84 k x_.1 (v_u57 k x_)).2 || (↑ (v_u7 k x_.1 (v_u58 k x_)).1.length : Int) != (↑ (v_u84 k x_.1 (v_u57 k x_)).1.length : Int)) then
 some false
 else
 f_u52_14 k k ((v_u7 k x_.1 (v_u58 k x_)).1) ((v_u84 k x_.1 (v_u57 k x_)).1) ((↑ (v_u7 k x_.1 (v_u58 k x_)).1.length : Int)) 0
 else none
 else none
 else none
 else none
 else none
 else none
 else none
def K_u52 (k : Nat) : Calld := ⟨fun g xs => match g with
 | 21 => match xs with
  | [_, _, _] => some [false, false, false]
  | _ => none
 | 22 => match xs with
  | [_, _, _] => some [false, false, false]
  | _ => none
 | 24 => match xs with
  | [_, _, _] => some [false, false, false]
  | _ => none
 | 26 => match xs with
  | [_, _] => some [false, false]
  | _ => none
 | 23 => match xs with
  | [_, _, _] => some [false, false, false]
  | _ => none
 | 25 => match xs with
  | [_, _] => some [false, false]
  | _ => none
 | 8 => match xs with
  | [_] => some [false]
  | _ => none
 | 11 => match xs with
  | [_] => some [false]
  | _ => none
 | 9 => match xs with
  | [] => some []
  | _ => none
 | 13 => match xs with
  | [_] => some [false]
  | _ => none
 | _ => none, fun g xs bs => match g with
 | 21 => match xs, bs with
  | [.r (.ro tl__ ql_), .agg qweb_, .r (.v (.int .i64 id_))], [] => (castL tl__ T2 ql_).bind fun l_ => (decS [] T5 qweb_).bind fun web_ => some (.one (res_u9 (v_u9 k l_ web_ id_), bo_u9 l_ web_ id_ (v_u9 k l_ web_ id_)))
  | _, _ => none
 | 22 => match xs, bs with
  | [.r (.ro tl__ ql_), .agg qweb_, .r (.v (.int .i64 id_))], [] => (castL tl__ T2 ql_).bind fun l_ => (decS [] T6 qweb_).bind fun web_ => some (.one (res_u87 (v_u87 k l_ web_ id_), bo_u87 l_ web_ id_ (v_u87 k l_ web_ id_)))
  | _, _ => none
 | 24 => match xs, bs with
  | [.r (.ro tl__ ql_), .agg qweb_, .r (.v (.int .i64 id_))], [] => (castL tl__ T2 ql_).bind fun l_ => (decS [] T6 qweb_).bind fun web_ => some (.one (res_u86 (v_u86 k l_ web_ id_), bo_u86 l_ web_ id_ (v_u86 k l_ web_ id_)))
  | _, _ => none
 | 26 => match xs, bs with
  | [.r (.ro tl__ ql_), .agg qweb_], [] => (castL tl__ T2 ql_).bind fun l_ => (decS [] T6 qweb_).bind fun web_ => some (.one (res_u84 (v_u84 k l_ web_), bo_u84 l_ web_ (v_u84 k l_ web_)))
  | _, _ => none
 | 23 => match xs, bs with
  | [.r (.ro tl__ ql_), .agg qweb_, .r (.v (.int .i64 id_))], [] => (castL tl__ T2 ql_).bind fun l_ => (decS [] T5 qweb_).bind fun web_ => some (.one (res_u8 (v_u8 k l_ web_ id_), bo_u8 l_ web_ id_ (v_u8 k l_ web_ id_)))
  | _, _ => none
 | 25 => match xs, bs with
  | [.r (.ro tl__ ql_), .agg qweb_], [] => (castL tl__ T2 ql_).bind fun l_ => (decS [] T5 qweb_).bind fun web_ => some (.one (res_u7 (v_u7 k l_ web_), bo_u7 l_ web_ (v_u7 k l_ web_)))
  | _, _ => none
 | 8 => match xs, bs with
  | [.agg qx_], [] => (decS [] T3 qx_).bind fun x_ => some (.one (res_u55 (v_u55 k x_), bo_u55 x_ (v_u55 k x_)))
  | _, _ => none
 | 11 => match xs, bs with
  | [.agg qx_], [] => (decS [] T3 qx_).bind fun x_ => some (.one (res_u58 (v_u58 k x_), bo_u58 x_ (v_u58 k x_)))
  | _, _ => none
 | 9 => match xs, bs with
  | [], [] => some (.one (res_u53 (v_u53 k ), bo_u53  (v_u53 k )))
  | _, _ => none
 | 13 => match xs, bs with
  | [.agg qx_], [] => (decS [] T3 qx_).bind fun x_ => some (.one (res_u57 (v_u57 k x_), bo_u57 x_ (v_u57 k x_)))
  | _, _ => none
 | _ => none⟩
theorem ev_u52 (k : Nat) (x_ : T3.T) (id_ : Int) : ∀ j, (∀ (y0 : List (I).T) (y1 : List (I).T) (y2 : Int) (y3 : Int) (r : R_u52), f_u52_14 k j y0 y1 y2 y3 = some r → Ev Tryz.prog Tryz.f6 0 (placeAt Tryz.f6 14) (st_u52_14 y0 y1 y2 y3) (res_u52 r) (bo_u52 x_ id_ r))
 | 0 => by
  intros; rename_i h; simp [f_u52_14] at h
 | j + 1 => by
  have ih := ev_u52 k x_ id_ j
  ·intro y0 y1 y2 y3 r h
   rw [f_u52_14] at h
   refine Ev.tree hm (R := Rt) (K := (K_u52 k)) (l := []) (C := [(14, [.autoB [15, 16, 109, 110] false []])]) (E := [.autoB [4] true []]) (n := 1000) (T := .test ((decide (y3 < y2))) (.need [0 ≤ y3, y3 < (↑y0.length : Int), 0 ≤ y3, y3 < (↑y1.length : Int)] (.test ((y0.getD y3.toNat I.dflt != y1.getD y3.toNat I.dflt)) (.leaf (res_u52 false) (bo_u52 x_ id_ false)) (.cut 14 (placeAt Tryz.f6 14) (st_u52_14 y0 y1 y2 ((i64.wrap (y3 + 1))))))) (.need [CC Tryz.prog 9 (args_u53 ) (bin_u53 ) (res_u53 (v_u53 k )) (bo_u53  (v_u53 k ))] (.leaf (res_u52 (v_u53 k)) (bo_u52 x_ id_ (v_u53 k))))) (by kernel_rfl) ?_
   refine ⟨fun c => ?_, fun c => ?_⟩
   ·rw [cond_t (show ((decide (y3 < y2))) = true from c)] at h
    by_cases q : (0 ≤ y3) ∧ (y3 < (↑y0.length : Int)) ∧ (0 ≤ y3) ∧ (y3 < (↑y1.length : Int))
    ·rw [if_pos q] at h
     refine ⟨(conjC q.1 (conjC q.2.1 (conjC q.2.2.1 (conjC q.2.2.2 conj0)))), ?_⟩
     refine ⟨fun c => ?_, fun c => ?_⟩
     ·rw [cond_t (show ((y0.getD y3.toNat I.dflt != y1.getD y3.toNat I.dflt)) = true from c)] at h
      cases h; exact ⟨rfl, rfl⟩
     ·rw [cond_f (show ((y0.getD y3.toNat I.dflt != y1.getD y3.toNat I.dflt)) = false from c)] at h
      exact ih y0 y1 y2 ((i64.wrap (y3 + 1))) _ h
    ·rw [if_neg q] at h; cases h
   ·rw [cond_f (show ((decide (y3 < y2))) = false from c)] at h
    by_cases q : ((f_u53 k ).isSome = true)
    ·rw [if_pos q] at h
     refine ⟨(conjC (cc_u53 k  q) conj0), ?_⟩
     cases h; exact ⟨rfl, rfl⟩
    ·rw [if_neg q] at h; cases h
theorem of_u52 (k : Nat) (x_ : T3.T) (id_ : Int) (r : R_u52) (h : f_u52 k x_ id_ = some r) : CC Tryz.prog 6 (args_u52 x_ id_) (bin_u52 x_ id_) (res_u52 r) (bo_u52 x_ id_ r) := by
 refine CC.of (fn := Tryz.f6) (by kernel_rfl) (by kernel_rfl) (by kernel_rfl) (by kernel_rfl) ?_
 unfold f_u52 at h
 refine Ev.tree hm (R := Rt) (K := (K_u52 k)) (l := []) (C := [(14, [.autoB [15, 16, 109, 110] false []])]) (E := [.autoB [4] true []]) (n := 1000) (T := .need [CC Tryz.prog 8 (args_u55 x_) (bin_u55 x_) (res_u55 (v_u55 k x_)) (bo_u55 x_ (v_u55 k x_))] (.test ((v_u55 k x_)) (.need [CC Tryz.prog 9 (args_u53 ) (bin_u53 ) (res_u53 (v_u53 k )) (bo_u53  (v_u53 k ))] (.leaf (res_u52 (v_u53 k)) (bo_u52 x_ id_ (v_u53 k)))) (.need [CC Tryz.prog 11 (args_u58 x_) (bin_u58 x_) (res_u58 (v_u58 k x_)) (bo_u58 x_ (v_u58 k x_)), CC Tryz.prog 21 (args_u9 x_.1 (v_u58 k x_) id_) (bin_u9 x_.1 (v_u58 k x_) id_) (res_u9 (v_u9 k x_.1 (v_u58 k x_) id_)) (bo_u9 x_.1 (v_u58 k x_) id_ (v_u9 k x_.1 (v_u58 k x_) id_))] (.need [CC Tryz.prog 13 (args_u57 x_) (bin_u57 x_) (res_u57 (v_u57 k x_)) (bo_u57 x_ (v_u57 k x_)), CC Tryz.prog 22 (args_u87 x_.1 (v_u57 k x_) id_) (bin_u87 x_.1 (v_u57 k x_) id_) (res_u87 (v_u87 k x_.1 (v_u57 k x_) id_)) (bo_u87 x_.1 (v_u57 k x_) id_ (v_u87 k x_.1 (v_u57 k x_) id_))] (.need [CC Tryz.prog 11 (args_u58 x_) (bin_u58 x_) (res_u58 (v_u58 k x_)) (bo_u58 x_ (v_u58 k x_)), CC Tryz.prog 23 (args_u8 x_.1 (v_u58 k x_) id_) (bin_u8 x_.1 (v_u58 k x_) id_) (res_u8 (v_u8 k x_.1 (v_u58 k x_) id_)) (bo_u8 x_.1 (v_u58 k x_) id_ (v_u8 k x_.1 (v_u58 k x_) id_))] (.need [CC Tryz.prog 13 (args_u57 x_) (bin_u57 x_) (res_u57 (v_u57 k x_)) (bo_u57 x_ (v_u57 k x_)), CC Tryz.prog 24 (args_u86 x_.1 (v_u57 k x_) id_) (bin_u86 x_.1 (v_u57 k x_) id_) (res_u86 (v_u86 k x_.1 (v_u57 k x_) id_)) (bo_u86 x_.1 (v_u57 k x_) id_ (v_u86 k x_.1 (v_u57 k x_) id_))] (.test (((v_u9 k x_.1 (v_u58 k x_) id_).1 != (v_u87 k x_.1 (v_u57 k x_) id_).1 || (v_u9 k x_.1 (v_u58 k x_) id_).2.1 != (v_u87 k x_.1 (v_u57 k x_) id_).2.1 || (v_u9 k x_.1 (v_u58 k x_) id_).2.2 != (v_u87 k x_.1 (v_u57 k x_) id_).2.2 || (v_u8 k x_.1 (v_u58 k x_) id_).1 != (v_u86 k x_.1 (v_u57 k x_) id_).1 || (v_u8 k x_.1 (v_u58 k x_) id_).2 != (v_u86 k x_.1 (v_u57 k x_) id_).2)) (.leaf (res_u52 false) (bo_u52 x_ id_ false)) (.need [CC Tryz.prog 11 (args_u58 x_) (bin_u58 x_) (res_u58 (v_u58 k x_)) (bo_u58 x_ (v_u58 k x_)), CC Tryz.prog 25 (args_u7 x_.1 (v_u58 k x_)) (bin_u7 x_.1 (v_u58 k x_)) (res_u7 (v_u7 k x_.1 (v_u58 k x_))) (bo_u7 x_.1 (v_u58 k x_) (v_u7 k x_.1 (v_u58 k x_)))] (.need [CC Tryz.prog 13 (args_u57 x_) (bin_u57 x_) (res_u57 (v_u57 k x_)) (bo_u57 x_ (v_u57 k x_)), CC Tryz.prog 26 (args_u84 x_.1 (v_u57 k x_)) (bin_u84 x_.1 (v_u57 k x_)) (res_u84 (v_u84 k x_.1 (v_u57 k x_))) (bo_u84 x_.1 (v_u57 k x_) (v_u84 k x_.1 (v_u57 k x_)))] (.test (((v_u7 k x_.1 (v_u58 k x_)).2 != (v_u84 k x_.1 (v_u57 k x_)).2 || (↑ (v_u7 k x_.1 (v_u58 k x_)).1.length : Int) != (↑ (v_u84 k x_.1 (v_u57 k x_)).1.length : Int))) (.leaf (res_u52 false) (bo_u52 x_ id_ false)) (.cut 14 (placeAt Tryz.f6 14) (st_u52_14 ((v_u7 k x_.1 (v_u58 k x_)).1) ((v_u84 k x_.1 (v_u57 k x_)).1) ((↑ (v_u7 k x_.1 (v_u58 k x_)).1.length : Int)) 0)))))))))))) (by kernel_rfl) ?_
 by_cases q : ((f_u55 k x_).isSome = true)
 ·rw [if_pos q] at h
  refine ⟨(conjC (cc_u55 k x_ q) conj0), ?_⟩
  refine ⟨fun c => ?_, fun c => ?_⟩
  ·rw [cond_t (show ((v_u55 k x_)) = true from c)] at h
   by_cases q : ((f_u53 k ).isSome = true)
   ·rw [if_pos q] at h
    refine ⟨(conjC (cc_u53 k  q) conj0), ?_⟩
    cases h; exact ⟨rfl, rfl⟩
   ·rw [if_neg q] at h; cases h
  ·rw [cond_f (show ((v_u55 k x_)) = false from c)] at h
   by_cases q : ((f_u58 k x_).isSome = true) ∧ ((f_u9 k x_.1 (v_u58 k x_) id_).isSome = true)
   ·rw [if_pos q] at h
    refine ⟨(conjC (cc_u58 k x_ q.1) (conjC (cc_u9 k x_.1 (v_u58 k x_) id_ q.2) conj0)), ?_⟩
    by_cases q : ((f_u57 k x_).isSome = true) ∧ ((f_u87 k x_.1 (v_u57 k x_) id_).isSome = true)
    ·rw [if_pos q] at h
     refine ⟨(conjC (cc_u57 k x_ q.1) (conjC (cc_u87 k x_.1 (v_u57 k x_) id_ q.2) conj0)), ?_⟩
     by_cases q : ((f_u58 k x_).isSome = true) ∧ ((f_u8 k x_.1 (v_u58 k x_) id_).isSome = true)
     ·rw [if_pos q] at h
      refine ⟨(conjC (cc_u58 k x_ q.1) (conjC (cc_u8 k x_.1 (v_u58 k x_) id_ q.2) conj0)), ?_⟩
      by_cases q : ((f_u57 k x_).isSome = true) ∧ ((f_u86 k x_.1 (v_u57 k x_) id_).isSome = true)
      ·rw [if_pos q] at h
       refine ⟨(conjC (cc_u57 k x_ q.1) (conjC (cc_u86 k x_.1 (v_u57 k x_) id_ q.2) conj0)), ?_⟩
       refine ⟨fun c => ?_, fun c => ?_⟩
       ·rw [cond_t (show (((v_u9 k x_.1 (v_u58 k x_) id_).1 != (v_u87 k x_.1 (v_u57 k x_) id_).1 || (v_u9 k x_.1 (v_u58 k x_) id_).2.1 != (v_u87 k x_.1 (v_u57 k x_) id_).2.1 || (v_u9 k x_.1 (v_u58 k x_) id_).2.2 != (v_u87 k x_.1 (v_u57 k x_) id_).2.2 || (v_u8 k x_.1 (v_u58 k x_) id_).1 != (v_u86 k x_.1 (v_u57 k x_) id_).1 || (v_u8 k x_.1 (v_u58 k x_) id_).2 != (v_u86 k x_.1 (v_u57 k x_) id_).2)) = true from c)] at h
        cases h; exact ⟨rfl, rfl⟩
       ·rw [cond_f (show (((v_u9 k x_.1 (v_u58 k x_) id_).1 != (v_u87 k x_.1 (v_u57 k x_) id_).1 || (v_u9 k x_.1 (v_u58 k x_) id_).2.1 != (v_u87 k x_.1 (v_u57 k x_) id_).2.1 || (v_u9 k x_.1 (v_u58 k x_) id_).2.2 != (v_u87 k x_.1 (v_u57 k x_) id_).2.2 || (v_u8 k x_.1 (v_u58 k x_) id_).1 != (v_u86 k x_.1 (v_u57 k x_) id_).1 || (v_u8 k x_.1 (v_u58 k x_) id_).2 != (v_u86 k x_.1 (v_u57 k x_) id_).2)) = false from c)] at h
        by_cases q : ((f_u58 k x_).isSome = true) ∧ ((f_u7 k x_.1 (v_u58 k x_)).isSome = true)
        ·rw [if_pos q] at h
         refine ⟨(conjC (cc_u58 k x_ q.1) (conjC (cc_u7 k x_.1 (v_u58 k x_) q.2) conj0)), ?_⟩
         by_cases q : ((f_u57 k x_).isSome = true) ∧ ((f_u84 k x_.1 (v_u57 k x_)).isSome = true)
         ·rw [if_pos q] at h
          refine ⟨(conjC (cc_u57 k x_ q.1) (conjC (cc_u84 k x_.1 (v_u57 k x_) q.2) conj0)), ?_⟩
          refine ⟨fun c => ?_, fun c => ?_⟩
          ·rw [cond_t (show (((v_u7 k x_.1 (v_u58 k x_)).2 != (v_u84 k x_.1 (v_u57 k x_)).2 || (↑ (v_u7 k x_.1 (v_u58 k x_)).1.length : Int) != (↑ (v_u84 k x_.1 (v_u57 k x_)).1.length : Int))) = true from c)] at h
           cases h; exact ⟨rfl, rfl⟩
          ·rw [cond_f (show (((v_u7 k x_.1 (v_u58 k x_)).2 != (v_u84 k x_.1 (v_u57 k x_)).2 || (↑ (v_u7 k x_.1 (v_u58 k x_)).1.length : Int) != (↑ (v_u84 k x_.1 (v_u57 k x_)).1.length : Int))) = false from c)] at h
           exact (ev_u52 k x_ id_ k) ((v_u7 k x_.1 (v_u58 k x_)).1) ((v_u84 k x_.1 (v_u57 k x_)).1) ((↑ (v_u7 k x_.1 (v_u58 k x_)).1.length : Int)) 0 _ h
         ·rw [if_neg q] at h; cases h
        ·rw [if_neg q] at h; cases h
      ·rw [if_neg q] at h; cases h
     ·rw [if_neg q] at h; cases h
    ·rw [if_neg q] at h; cases h
   ·rw [if_neg q] at h; cases h
 ·rw [if_neg q] at h; cases h
end
end Go.AM
namespace Go.AM
open Go Go.Proofs Go.IntKind

/-! ### the small register -/
def sm1 : Ro := (1, 0, 0, 10, true, [(99, 100, true)])
def sm2 : Ro := (2, 1, 2, 5, true, [(99, 50, true)])
def sm : List Ro := [sm1, sm2]
theorem single_one (r : Rn) (h : good r) (hc : chk [r] = 0) (hn : Nr (-1) [spn r]) : singleS [r] = true := by
 have e : nf ([r].map spn) = [spn r] := nf_self (spn_in (m := [r]) ⟨h, trivial⟩) hn
 unfold singleS
 rw [e, hc]
 have := h.lohi
 show (decide ((0 : Int) = 0) && ((hi r + 1 - lo r + 0) == r.2.1 + 0)) = true
 rw [beq_iff_eq.2 (by omega)]; rfl
theorem sm_reg : Reg sm 10 100 := by
 have h1 : singleS [(99, 100, true)] = true := single_one _ (by decide) (by decide) ⟨by decide, by decide, trivial⟩
 have h2 : singleS [(99, 50, true)] = true := single_one _ (by decide) (by decide) ⟨by decide, by decide, trivial⟩
 refine ⟨by decide, by decide, by decide, ?_⟩
 have o1 : Okp 10 100 ([] ++ [sm1]) := .snoc [] sm1 .nil ⟨by decide, by decide, .inl rfl, ⟨by decide, by decide, by decide, chk_zero.1 (by decide), by decide, h1, by decide⟩⟩ rfl rfl
 exact .snoc [sm1] sm2 o1 ⟨by decide, by decide, .inr ⟨sm1, rfl⟩, ⟨by decide, by decide, by decide, chk_zero.1 (by decide), by decide, h2, by decide⟩⟩ rfl rfl
theorem sm_err1 : errS sm 10 100 1 = 0 := errS_zero.2 ⟨sm_reg, .inr ⟨sm1, rfl⟩⟩
theorem sm_err2 : errS sm 10 100 2 = 0 := errS_zero.2 ⟨sm_reg, .inr ⟨sm2, rfl⟩⟩
theorem sm_up : upS sm 10 100 (2, 0, 0) = ((1, 6, 99), 0) := by
 unfold upS
 rw [if_neg (fun h : errS sm 10 100 2 ≠ 0 => h sm_err2)]
 rfl
theorem sm_web : webE sm 10 100 (2, 0, 0) = ((0, 3, 0), 0) := by
 have : onE sm 10 100 (2, 0, 0) = 0 := by
  unfold onE
  rw [if_neg (fun h : errS sm 10 100 2 ≠ 0 => h sm_err2)]
  rfl
 unfold webE
 rw [if_neg (fun h => h this)]
 rfl
theorem sm_cut : cutFull sm 10 100 2 = ((3, 5, false, [(0, 50, false)]), 0) := by
 unfold cutFull
 rw [if_neg (fun h : errS sm 10 100 2 ≠ 0 => h sm_err2)]
 rfl
theorem sm_rest : restE sm 10 100 1 = (750, 0) := by
 unfold restE
 rw [if_neg (fun h : errS sm 10 100 1 ≠ 0 => h sm_err1)]
 rfl
theorem awake_s (k : Nat) (hk : 301000 ≤ k) : f_u53 k = some true := by
 have hs : v_u56 k = (sm, 10, 100) := rfl
 have hw : v_u58 k (sm, 10, 100) = (10, 100) := rfl
 unfold f_u53
 rw [hs, hw]
 show (if (some (sm, (10 : Int), (100 : Int))).isSome = true then (if true = true ∧ (f_u10 k sm (10, 100) (2, 0, 0)).isSome = true then (if true = true ∧ (f_u11 k sm (10, 100) (2, 0, 0)).isSome = true then (if true = true ∧ (f_u5 k sm (10, 100) 2).isSome = true then (if true = true ∧ (f_u8 k sm (10, 100) 1).isSome = true then
  (bif ((v_u10 k sm (10, 100) (2, 0, 0)).2 != 0 || (v_u11 k sm (10, 100) (2, 0, 0)).2 != 0 || (v_u5 k sm (10, 100) 2).2 != 0 || (v_u8 k sm (10, 100) 1).2 != 0) then some false
   else bif (!eqT T4 (v_u10 k sm (10, 100) (2, 0, 0)).1 ((1 : Int), (6 : Int), (99 : Int)) || (!eqT T4 (v_u11 k sm (10, 100) (2, 0, 0)).1 ((0 : Int), (3 : Int), (0 : Int))) || (v_u8 k sm (10, 100) 1).1 != 750) then some false
   else _) else _) else _) else _) else _) else _) = _
 rw [fam_Up_s k (by omega), fam_Web_s k (by omega), fam_Cut_s k (by omega), fam_Rest_s k (by omega), fam_Up_v k (by omega), fam_Web_v k (by omega), fam_Cut_v k (by omega), fam_Rest_v k (by omega)]
 show (if (some (sm, (10 : Int), (100 : Int))).isSome = true then (if true = true ∧ (some (upS sm 10 100 (2, 0, 0))).isSome = true then (if true = true ∧ (some (webE sm 10 100 (2, 0, 0))).isSome = true then (if true = true ∧ (some (cutFull sm 10 100 2)).isSome = true then (if true = true ∧ (some (restE sm 10 100 1)).isSome = true then
  (bif ((upS sm 10 100 (2, 0, 0)).2 != 0 || (webE sm 10 100 (2, 0, 0)).2 != 0 || (cutFull sm 10 100 2).2 != 0 || (restE sm 10 100 1).2 != 0) then some false
   else bif (!eqT T4 (upS sm 10 100 (2, 0, 0)).1 ((1 : Int), (6 : Int), (99 : Int)) || (!eqT T4 (webE sm 10 100 (2, 0, 0)).1 ((0 : Int), (3 : Int), (0 : Int))) || (restE sm 10 100 1).1 != 750) then some false
   else _) else _) else _) else _) else _) else _) = _
 rw [sm_up, sm_web, sm_cut, sm_rest]
 rfl
theorem awake_v (k : Nat) (hk : 301000 ≤ k) : v_u53 k = true := by
 unfold v_u53; rw [awake_s k hk]; rfl
theorem web_v (k : Nat) (x : List Ro × Int × Int) : v_u58 k x = x.2 := rfl
theorem theirs_v (k : Nat) (x : List Ro × Int × Int) : v_u57 k x = x.2 := rfl
theorem web_s (k : Nat) (x : List Ro × Int × Int) : f_u58 k x = some x.2 := rfl
theorem theirs_s (k : Nat) (x : List Ro × Int × Int) : f_u57 k x = some x.2 := rfl
theorem great_l (k : Nat) (l : List Ro) (hl : l.length ≤ 30) : ∀ (d i j : Nat), i + d = l.length → d < j → (f_u55_4 k j l (l.length : Int) (i : Int)).isSome = true := by
 intro d
 induction d with
 | zero =>
  intro i j hi hj
  obtain ⟨j, rfl⟩ : ∃ q, j = q + 1 := ⟨j - 1, by omega⟩
  rw [f_u55_4, decide_eq_false (by omega : ¬ (i : Int) < (l.length : Int)), cond_false]; rfl
 | succ d ih =>
  intro i j hi hj
  obtain ⟨j, rfl⟩ : ∃ q, j = q + 1 := ⟨j - 1, by omega⟩
  rw [f_u55_4, decide_eq_true (by omega : (i : Int) < (l.length : Int)), cond_true, if_pos ⟨by omega, by omega⟩, wrapS i (by omega)]
  cases decide ((List.length (l.getD (i : Int).toNat T2.dflt).2.2.2.2.2 : Int) > 20)
  ·rw [cond_false]; exact ih (i + 1) j (by omega) (by omega)
  ·rfl
theorem great_s (k : Nat) (hk : 100 ≤ k) (x : List Ro × Int × Int) : (f_u55 k x).isSome = true := by
 unfold f_u55
 by_cases h : x.1.length > 30
 ·rw [decide_eq_true (by omega : (x.1.length : Int) > 30)]; rfl
 ·rw [decide_eq_false (by omega : ¬ (x.1.length : Int) > 30), cond_false]
  exact great_l k x.1 (by omega) x.1.length 0 k (by omega) (by omega)
theorem sizes_l (k : Nat) (hk : 301000 ≤ k) (y : List Int) (hl : y.length ≤ 512) : ∀ (d i j : Nat), i + d = y.length → d < j → f_u52_14 k j y y (y.length : Int) (i : Int) = some true := by
 intro d
 induction d with
 | zero =>
  intro i j hi hj
  obtain ⟨j, rfl⟩ : ∃ q, j = q + 1 := ⟨j - 1, by omega⟩
  rw [f_u52_14, decide_eq_false (by omega : ¬ (i : Int) < (y.length : Int)), cond_false, awake_s k hk, awake_v k hk]; rfl
 | succ d ih =>
  intro i j hi hj
  obtain ⟨j, rfl⟩ : ∃ q, j = q + 1 := ⟨j - 1, by omega⟩
  rw [f_u52_14, decide_eq_true (by omega : (i : Int) < (y.length : Int)), cond_true, if_pos ⟨by omega, by omega, by omega, by omega⟩, wrapS i (by omega), show (y.getD (i : Int).toNat I.dflt != y.getD (i : Int).toNat I.dflt) = false by simp]
  exact ih (i + 1) j (by omega) (by omega)
theorem q_FamilySizes (k : Nat) (hk : 301000 ≤ k) (x : List Ro × Int × Int) (id : Int) : f_u52 k x id = some true := by
 have hl : (leavesE x.1 x.2.1 x.2.2).1.length ≤ 512 := by
  unfold leavesE
  by_cases h : checkS x.1 x.2.1 x.2.2 ≠ 0
  ·rw [if_pos h]; exact Nat.zero_le _
  ·rw [if_neg h]
   have := (checkS_zero.1 (Classical.not_not.1 h)).num
   have := leavesGo_len x.1 x.1
   show (leavesGo x.1 x.1).length ≤ 512
   omega
 have ha := sizes_l k hk (leavesE x.1 x.2.1 x.2.2).1 hl (leavesE x.1 x.2.1 x.2.2).1.length 0 k (by omega) (by omega)
 unfold f_u52
 rw [great_s k (by omega), awake_s k hk, awake_v k hk, web_s, web_v, theirs_s, theirs_v, fam_Size_s k (by omega), fam_Size_v k (by omega), ref42_Size_s k (by omega), ref42_Size_v k (by omega), fam_Rest_s k (by omega), fam_Rest_v k (by omega), ref42_Rest_s k (by omega), ref42_Rest_v k (by omega), fam_Leaves_s k (by omega), fam_Leaves_v k (by omega), ref42_Leaves_s k (by omega), ref42_Leaves_v k (by omega)]
 rw [bne_self_eq_false, bne_self_eq_false, bne_self_eq_false, bne_self_eq_false, bne_self_eq_false, bne_self_eq_false, bne_self_eq_false]
 cases v_u55 k x
 ·exact ha
 ·rfl
end Go.AM
