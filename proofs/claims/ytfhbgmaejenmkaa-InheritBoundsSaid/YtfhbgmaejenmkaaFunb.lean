/- Contracts of the functions that the law reaches, and the plain law. -/
import Derived.Test.YtfhbgmaejenmkaaFuna
set_option linter.unusedVariables false
set_option linter.unusedSimpArgs false
set_option linter.unusedSectionVars false
namespace Go.AM
open Go Go.Proofs
noncomputable section
abbrev R_u13 : Type := Int
def res_u13 (r : R_u13) : AV := .r (.v (.int .i64 r))
def bo_u13 (g_0 : Int) (g_1 : Int) (g_2 : List (T2).T) (g_3 : List ((I).T × (I).T)) (r_ : T2.T) (r : R_u13) : List (Nat × Blk) := [(0, .var 114 [.r (.v (.int .i64 g_0)), .r (.v (.int .i64 g_1)), .r (.ro T2 g_2), .own 1 0]), (0, .map false I I g_3)]
def args_u13 (g_0 : Int) (g_1 : Int) (g_2 : List (T2).T) (g_3 : List ((I).T × (I).T)) (r_ : T2.T) : List AV := [.ptr 0 0 0, .agg (rvs (enc T2 r_))]
def bin_u13 (g_0 : Int) (g_1 : Int) (g_2 : List (T2).T) (g_3 : List ((I).T × (I).T)) (r_ : T2.T) : List Blk := [.var 114 [.r (.v (.int .i64 g_0)), .r (.v (.int .i64 g_1)), .r (.ro T2 g_2), .own 1 0], .map false I I g_3]
abbrev C_u13 (g_0 : Int) (g_1 : Int) (g_2 : List (T2).T) (g_3 : List ((I).T × (I).T)) (r_ : T2.T) (r : R_u13) : Prop := CC Try.prog 62 (args_u13 g_0 g_1 g_2 g_3 r_) (bin_u13 g_0 g_1 g_2 g_3 r_) (res_u13 r) (bo_u13 g_0 g_1 g_2 g_3 r_ r)
def st_u13_17 (g_0 : Int) (g_1 : Int) (g_2 : List (T2).T) (g_3 : List ((I).T × (I).T)) (r_ : T2.T) (y0 : Int) (y1 : List (T0).T) (y2 : Int) (y3 : Int) : St := ⟨mkS 93 [(6, .r (.v (.int .i64 y0))), (78, .r (.ro T0 y1)), (79, .r (.v (.int .i64 y2))), (80, .r (.v (.int .i64 y3)))], [(0, 0, .var 114 [.r (.v (.int .i64 g_0)), .r (.v (.int .i64 g_1)), .r (.ro T2 g_2), .own 1 0]), (1, 0, .map false I I g_3)]⟩
def f_u13_17 (k : Nat) (g_0 : Int) (g_1 : Int) (g_2 : List (T2).T) (g_3 : List ((I).T × (I).T)) (r_ : T2.T) : Nat → Int → List (T0).T → Int → Int → Option R_u13
  | 0, _, _, _, _ => none
  | j + 1, y0, y1, y2, y3 =>
  bif (decide (y3 < y2)) then
  if (0 ≤ y3) ∧ (y3 < (↑y1.length : Int)) then
  if ((f_u7 k (y1.getD y3.toNat T0.dflt)).isSome = true) then
  bif (decide ((v_u7 k (y1.getD y3.toNat T0.dflt)).2 ≥ y0)) then
  some 21
  else
  f_u13_17 k g_0 g_1 g_2 g_3 r_ j y0 y1 y2 ((IntKind.i64.wrap (y3 + 1)))
  else none
  else none
  else
  some 0
def f_u13 (k : Nat) (g_0 : Int) (g_1 : Int) (g_2 : List (T2).T) (g_3 : List ((I).T × (I).T)) (r_ : T2.T) : Option R_u13 :=
  bif (decide (r_.1 < (1 : Int)) || decide (r_.1 > (1000000 : Int))) then
  some 1
  else
  bif (r_.2.1 != (0 : Int)) then
  if ((r_.2.1 != (0 : Int)) = true) ∧ ((f_u14 k g_0 g_1 g_2 g_3 r_.2.1).isSome = true) then
  bif (true && (!v_u14 k g_0 g_1 g_2 g_3 r_.2.1)) then
  some 7
  else
  if ((f_u16 k g_0 g_1 g_2 g_3 r_.2.1).isSome = true) then
  bif (decide (r_.2.2.1 < (0 : Int)) || decide (r_.2.2.2.1 < (1 : Int)) || decide (r_.2.2.1 > (v_u16 k g_0 g_1 g_2 g_3 r_.2.1).1) || decide (r_.2.2.2.1 > IntKind.i64.wrap ((v_u16 k g_0 g_1 g_2 g_3 r_.2.1).1 - r_.2.2.1))) then
  some 20
  else
  if ((f_u28 k r_.2.2.2.2.2).isSome = true) then
  bif (v_u28 k r_.2.2.2.2.2 != (0 : Int)) then
  some (v_u28 k r_.2.2.2.2.2)
  else
  bif ((↑ (List.length r_.2.2.2.2.2) : Int) == (0 : Int)) then
  some 10
  else
  if ((f_u35 k r_.2.2.2.2.2).isSome = true) then
  bif (!v_u35 k r_.2.2.2.2.2) then
  some 12
  else
  f_u13_17 k g_0 g_1 g_2 g_3 r_ k ((v_u16 k g_0 g_1 g_2 g_3 r_.2.1).2) r_.2.2.2.2.2 ((↑ (List.length r_.2.2.2.2.2) : Int)) 0
  else none
  else none
  else none
  else none
  else
  if ((r_.2.1 != (0 : Int)) = false) then
  if ((f_u16 k g_0 g_1 g_2 g_3 r_.2.1).isSome = true) then
  bif (decide (r_.2.2.1 < (0 : Int)) || decide (r_.2.2.2.1 < (1 : Int)) || decide (r_.2.2.1 > (v_u16 k g_0 g_1 g_2 g_3 r_.2.1).1) || decide (r_.2.2.2.1 > IntKind.i64.wrap ((v_u16 k g_0 g_1 g_2 g_3 r_.2.1).1 - r_.2.2.1))) then
  some 20
  else
  if ((f_u28 k r_.2.2.2.2.2).isSome = true) then
  bif (v_u28 k r_.2.2.2.2.2 != (0 : Int)) then
  some (v_u28 k r_.2.2.2.2.2)
  else
  bif ((↑ (List.length r_.2.2.2.2.2) : Int) == (0 : Int)) then
  some 10
  else
  if ((f_u35 k r_.2.2.2.2.2).isSome = true) then
  bif (!v_u35 k r_.2.2.2.2.2) then
  some 12
  else
  f_u13_17 k g_0 g_1 g_2 g_3 r_ k ((v_u16 k g_0 g_1 g_2 g_3 r_.2.1).2) r_.2.2.2.2.2 ((↑ (List.length r_.2.2.2.2.2) : Int)) 0
  else none
  else none
  else none
  else none
def v_u13 (k : Nat) (g_0 : Int) (g_1 : Int) (g_2 : List (T2).T) (g_3 : List ((I).T × (I).T)) (r_ : T2.T) : R_u13 := (f_u13 k g_0 g_1 g_2 g_3 r_).getD 0
def ke_u13 (k : Nat) : Ke := (62, fun xs => match xs with
  | [.ptr _ _ _, _] => some [true, false]
  | _ => none, fun xs bs => match xs, bs with
  | [.ptr 0 0 0, .agg qr_], [.var 114 [.r (.v (.int .i64 g_0)), .r (.v (.int .i64 g_1)), .r (.ro tg_2_ qg_2), .own 1 0], .map false kg_3_ tg_3_ qg_3] => (decS [] T2 qr_).bind fun r_ => (castL tg_2_ T2 qg_2).bind fun g_2 => (castM kg_3_ tg_3_ I I qg_3).bind fun g_3 => some (.one (res_u13 (v_u13 k g_0 g_1 g_2 g_3 r_), bo_u13 g_0 g_1 g_2 g_3 r_ (v_u13 k g_0 g_1 g_2 g_3 r_)))
  | _, _ => none)
def K_u13 (k : Nat) : Calld := mkK [ke_u14 k, ke_u28 k, ke_u16 k, ke_u35 k, ke_u7 k]
def cs_u13 : List (Nat × List Cmd) := [(17, [.autoB [6, 78, 79, 80] false []])]
abbrev E_u13 (g_0 : Int) (g_1 : Int) (g_2 : List (T2).T) (g_3 : List ((I).T × (I).T)) (r_ : T2.T) (todo : List Item) (st : St) (o : Option R_u13) : Prop := ∀ r, o = some r → Ev Try.prog Try.f62 2 todo st (res_u13 r) (bo_u13 g_0 g_1 g_2 g_3 r_ r)
theorem ev_u13 (k : Nat) (g_0 : Int) (g_1 : Int) (g_2 : List (T2).T) (g_3 : List ((I).T × (I).T)) (r_ : T2.T) : ∀ j, (∀ (y0 : Int) (y1 : List (T0).T) (y2 : Int) (y3 : Int), E_u13 g_0 g_1 g_2 g_3 r_ (placeAt Try.f62 17) (st_u13_17 g_0 g_1 g_2 g_3 r_ y0 y1 y2 y3) (f_u13_17 k g_0 g_1 g_2 g_3 r_ j y0 y1 y2 y3))
  | 0 => fun _ _ _ _ _ h => (nomatch h)
  | j + 1 => by
    have ih := @ev_u13 k g_0 g_1 g_2 g_3 r_ j
    · intro y0 y1 y2 y3 r h
      rw [f_u13_17] at h
      exact go (K_u13 k) [] cs_u13 [.autoB [4] true []] (gT h (fun c h => gN2 h fun h => gN1 h (fun q => cc_u7 q) fun h => gT h (fun c h => gL h) fun c h => gC h 17 (ih _ _ _ _ _)) fun c h => gL h) (by kernel_rfl)
theorem of_u13 (k : Nat) (g_0 : Int) (g_1 : Int) (g_2 : List (T2).T) (g_3 : List ((I).T × (I).T)) (r_ : T2.T) (r : R_u13) (h : f_u13 k g_0 g_1 g_2 g_3 r_ = some r) : C_u13 g_0 g_1 g_2 g_3 r_ r := by
  refine CC.of (fn := Try.f62) (by kernel_rfl) (by kernel_rfl) (by kernel_rfl) (by kernel_rfl) ?_
  unfold f_u13 at h
  exact go (K_u13 k) [] cs_u13 [.autoB [4] true []] (gT h (fun c h => gL h) fun c h => gT h (fun c h => gN h (fun q => conjC q.1 (conjC (cc_u14 q.2) conj0)) fun h => gT h (fun c h => gL h) fun c h => gN1 h (fun q => cc_u16 q) fun h => gT h (fun c h => gL h) fun c h => gN1 h (fun q => cc_u28 q) fun h => gT h (fun c h => gL h) fun c h => gT h (fun c h => gL h) fun c h => gN1 h (fun q => cc_u35 q) fun h => gT h (fun c h => gL h) fun c h => gC h 17 ((ev_u13 k g_0 g_1 g_2 g_3 r_ k) _ _ _ _ _)) fun c h => gN1 h id fun h => gU2 h (.leaf (.r (.v (.int .i64 7))) [(0, .var 114 [.r (.v (.int .i64 g_0)), .r (.v (.int .i64 g_1)), .r (.ro T2 g_2), .own 1 0]), (0, .map false I I g_3)]) fun h => gN1 h (fun q => cc_u16 q) fun h => gT h (fun c h => gL h) fun c h => gN1 h (fun q => cc_u28 q) fun h => gT h (fun c h => gL h) fun c h => gT h (fun c h => gL h) fun c h => gN1 h (fun q => cc_u35 q) fun h => gT h (fun c h => gL h) fun c h => gC h 17 ((ev_u13 k g_0 g_1 g_2 g_3 r_ k) _ _ _ _ _)) (by kernel_rfl)
theorem cc_u13 {k : Nat} {g_0 : Int} {g_1 : Int} {g_2 : List (T2).T} {g_3 : List ((I).T × (I).T)} {r_ : T2.T} (h : (f_u13 k g_0 g_1 g_2 g_3 r_).isSome = true) : C_u13 g_0 g_1 g_2 g_3 r_ (v_u13 k g_0 g_1 g_2 g_3 r_) := ccG (Φ := C_u13 g_0 g_1 g_2 g_3 r_) h (of_u13 k g_0 g_1 g_2 g_3 r_)
abbrev RA_u9 : Type := Int
def resA_u9 (r : RA_u9) : AV := .tup [.r (.v (Value.pointer none)), .r (.v (.int .i64 r))]
def boA_u9 (l_ : List (T2).T) (web_ : T6.T) (r : RA_u9) : List (Nat × Blk) := []
abbrev RB_u9 : Type := Int × Int × Int × List (T2).T × (List ((I).T × (I).T))
def resB_u9 (r : RB_u9) : AV := .tup [.ptr 0 0 0, .r (.v (.int .i64 r.1))]
def boB_u9 (l_ : List (T2).T) (web_ : T6.T) (r : RB_u9) : List (Nat × Blk) := [(0, .var 114 [.r (.v (.int .i64 r.2.1)), .r (.v (.int .i64 r.2.2.1)), .r (.ro T2 r.2.2.2.1), .own 1 0]), (0, .map false I I r.2.2.2.2)]
abbrev R_u9 : Type := RA_u9 ⊕ RB_u9
def res_u9 (r : R_u9) : AV := match r with
  | .inl a => resA_u9 a
  | .inr a => resB_u9 a
def bo_u9 (l_ : List (T2).T) (web_ : T6.T) (r : R_u9) : List (Nat × Blk) := match r with
  | .inl a => boA_u9 l_ web_ a
  | .inr a => boB_u9 l_ web_ a
def args_u9 (l_ : List (T2).T) (web_ : T6.T) : List AV := [.r (.ro T2 l_), .agg (rvs (enc T6 web_))]
def bin_u9 (l_ : List (T2).T) (web_ : T6.T) : List Blk := []
abbrev C_u9 (l_ : List (T2).T) (web_ : T6.T) (r : R_u9) : Prop := CC Try.prog 48 (args_u9 l_ web_) (bin_u9 l_ web_) (res_u9 r) (bo_u9 l_ web_ r)
abbrev CA_u9 (l_ : List (T2).T) (web_ : T6.T) (r : RA_u9) : Prop := CC Try.prog 48 (args_u9 l_ web_) (bin_u9 l_ web_) (resA_u9 r) (boA_u9 l_ web_ r)
abbrev CB_u9 (l_ : List (T2).T) (web_ : T6.T) (r : RB_u9) : Prop := CC Try.prog 48 (args_u9 l_ web_) (bin_u9 l_ web_) (resB_u9 r) (boB_u9 l_ web_ r)
def st_u9_8 (y0 : List (T2).T) (y1 : Bool) (y2 : List (T2).T) (y3 : Int) (y4 : Int) (y5 : Int) (y6 : Int) (y7 : List (T2).T) (y8 : List ((I).T × (I).T)) : St := ⟨mkS 97 [(0, .r (.ro T2 y0)), (6, .ptr 1000000 0 0), (7, .r (.v (.bool y1))), (41, .r (.ro T2 y2)), (42, .r (.v (.int .i64 y3))), (43, .r (.v (.int .i64 y4)))], [(1000000, 0, .var 114 [.r (.v (.int .i64 y5)), .r (.v (.int .i64 y6)), .r (.ro T2 y7), .own 1000001 0]), (1000001, 0, .map false I I y8)]⟩
def st_u9_20 (y0 : List (T2).T) (y1 : List (T2).T) (y2 : Int) (y3 : Int) (y4 : Int) (y5 : Int) (y6 : List (T2).T) (y7 : List ((I).T × (I).T)) : St := ⟨mkS 97 [(0, .r (.ro T2 y0)), (6, .ptr 1000000 0 0), (67, .r (.ro T2 y1)), (68, .r (.v (.int .i64 y2))), (69, .r (.v (.int .i64 y3)))], [(1000000, 0, .var 114 [.r (.v (.int .i64 y4)), .r (.v (.int .i64 y5)), .r (.ro T2 y6), .own 1000001 0]), (1000001, 0, .map false I I y7)]⟩
def st_u9_23 (y0 : List (T2).T) (y1 : List (T2).T) (y2 : Int) (y3 : Int) (y4 : List (T2).T) (y5 : Int) (y6 : Int) (y7 : Int) (y8 : Int) (y9 : List (T2).T) (y10 : List ((I).T × (I).T)) (y11 : T2.T) : St := ⟨mkS 97 [(0, .r (.ro T2 y0)), (6, .ptr 1000000 0 0), (12, .ptr 1000002 0 0), (67, .r (.ro T2 y1)), (68, .r (.v (.int .i64 y2))), (69, .r (.v (.int .i64 y3))), (76, .r (.ro T2 y4)), (77, .r (.v (.int .i64 y5))), (78, .r (.v (.int .i64 y6)))], [(1000000, 0, .var 114 [.r (.v (.int .i64 y7)), .r (.v (.int .i64 y8)), .r (.ro T2 y9), .own 1000001 0]), (1000001, 0, .map false I I y10), (1000002, 0, .var 70 (rvs (enc T2 y11)))]⟩
mutual
def f_u9_8 (k : Nat) : Nat → List (T2).T → Bool → List (T2).T → Int → Int → Int → Int → List (T2).T → (List ((I).T × (I).T)) → Option R_u9
  | 0, _, _, _, _, _, _, _, _, _ => none
  | j + 1, y0, y1, y2, y3, y4, y5, y6, y7, y8 =>
  bif (decide (y4 < y3)) then
  if (0 ≤ y4) ∧ (y4 < (↑y2.length : Int)) then
  if ((f_u13 k y5 y6 y7 y8 (y2.getD y4.toNat T2.dflt)).isSome = true) then
  bif (v_u13 k y5 y6 y7 y8 (y2.getD y4.toNat T2.dflt) != (0 : Int)) then
  some ((.inl (v_u13 k y5 y6 y7 y8 (y2.getD y4.toNat T2.dflt))))
  else
  if ((f_u14 k y5 y6 y7 y8 (y2.getD y4.toNat T2.dflt).1).isSome = true) then
  bif (v_u14 k y5 y6 y7 y8 (y2.getD y4.toNat T2.dflt).1) then
  f_u9_8 k j y0 true y2 y3 ((IntKind.i64.wrap (y4 + 1))) y5 y6 y7 y8
  else
  f_u9_8 k j y0 y1 y2 y3 ((IntKind.i64.wrap (y4 + 1))) y5 y6 y7 ((mset I (y2.getD y4.toNat T2.dflt).1 y4 y8))
  else none
  else none
  else none
  else
  bif y1 then
  some ((.inl 6))
  else
  f_u9_20 k j y0 y0 ((↑y0.length : Int)) 0 y5 y6 y7 y8
def f_u9_20 (k : Nat) : Nat → List (T2).T → List (T2).T → Int → Int → Int → Int → List (T2).T → (List ((I).T × (I).T)) → Option R_u9
  | 0, _, _, _, _, _, _, _, _ => none
  | j + 1, y0, y1, y2, y3, y4, y5, y6, y7 =>
  bif (decide (y3 < y2)) then
  if (0 ≤ y3) ∧ (y3 < (↑y1.length : Int)) then
  if ((0 : Int) ≤ (0 : Int)) ∧ (0 ≤ y3) ∧ (y3 ≤ (↑y0.length : Int)) then
  f_u9_23 k j y0 y1 y2 y3 ((List.take (y3.toNat - Int.toNat 0) (List.drop (Int.toNat 0) y0))) ((↑ (List.take (y3.toNat - Int.toNat 0) (List.drop (Int.toNat 0) y0)).length : Int)) 0 y4 y5 y6 y7 ((y1.getD y3.toNat T2.dflt))
  else none
  else none
  else
  some ((.inr ((0, y4, y5, y6, y7))))
def f_u9_23 (k : Nat) : Nat → List (T2).T → List (T2).T → Int → Int → List (T2).T → Int → Int → Int → Int → List (T2).T → (List ((I).T × (I).T)) → T2.T → Option R_u9
  | 0, _, _, _, _, _, _, _, _, _, _, _, _ => none
  | j + 1, y0, y1, y2, y3, y4, y5, y6, y7, y8, y9, y10, y11 =>
  bif (decide (y6 < y5)) then
  if (0 ≤ y6) ∧ (y6 < (↑y4.length : Int)) then
  bif (y11.2.1 == (y4.getD y6.toNat T2.dflt).2.1) then
  if ((y11.2.1 == (y4.getD y6.toNat T2.dflt).2.1) = true) ∧ ((f_u10 k y11.2.2 (y4.getD y6.toNat T2.dflt).2.2).isSome = true) then
  bif (true && v_u10 k y11.2.2 (y4.getD y6.toNat T2.dflt).2.2) then
  some ((.inl 12))
  else
  f_u9_23 k j y0 y1 y2 y3 y4 y5 ((IntKind.i64.wrap (y6 + 1))) y7 y8 y9 y10 y11
  else none
  else
  if ((y11.2.1 == (y4.getD y6.toNat T2.dflt).2.1) = false) then
  f_u9_23 k j y0 y1 y2 y3 y4 y5 ((IntKind.i64.wrap (y6 + 1))) y7 y8 y9 y10 y11
  else none
  else none
  else
  f_u9_20 k j y0 y1 y2 ((IntKind.i64.wrap (y3 + 1))) y7 y8 y9 y10
end
def f_u9 (k : Nat) (l_ : List (T2).T) (web_ : T6.T) : Option R_u9 :=
  bif (decide (web_.1 < (1 : Int)) || decide (web_.1 > (12000 : Int)) || decide (web_.2 < (0 : Int)) || decide (web_.2 > (17179869184 : Int))) then
  some ((.inl 1))
  else
  bif (decide ((↑l_.length : Int) > (512 : Int))) then
  some ((.inl 8))
  else
  f_u9_8 k k l_ false l_ ((↑l_.length : Int)) 0 web_.1 web_.2 l_ ([])
def v_u9 (k : Nat) (l_ : List (T2).T) (web_ : T6.T) : R_u9 := (f_u9 k l_ web_).getD (.inl 0)
def vA_u9 (k : Nat) (l_ : List (T2).T) (web_ : T6.T) : RA_u9 := lft 0 (v_u9 k l_ web_)
def vB_u9 (k : Nat) (l_ : List (T2).T) (web_ : T6.T) : RB_u9 := rgt ((0, 0, 0, [], [])) (v_u9 k l_ web_)
def ke_u9 (k : Nat) : Ke := (48, fun xs => match xs with
  | [_, _] => some [false, false]
  | _ => none, fun xs bs => match xs, bs with
  | [.r (.ro tl__ ql_), .agg qweb_], [] => (castL tl__ T2 ql_).bind fun l_ => (decS [] T6 qweb_).bind fun web_ => some (.two (v_u9 k l_ web_).isLeft (resA_u9 (vA_u9 k l_ web_), boA_u9 l_ web_ (vA_u9 k l_ web_)) (resB_u9 (vB_u9 k l_ web_), boB_u9 l_ web_ (vB_u9 k l_ web_)))
  | _, _ => none)
def K_u9 (k : Nat) : Calld := mkK [ke_u14 k, ke_u13 k, ke_u10 k]
def cs_u9 : List (Nat × List Cmd) := [(8, [.autoB [0, 6, 7, 41, 42, 43] false []]), (20, [.autoB [0, 6, 67, 68, 69] false []]), (23, [.autoB [0, 6, 12, 67, 68, 69, 76, 77, 78] false []])]
abbrev E_u9 (l_ : List (T2).T) (web_ : T6.T) (todo : List Item) (st : St) (o : Option R_u9) : Prop := ∀ r, o = some r → Ev Try.prog Try.f48 0 todo st (res_u9 r) (bo_u9 l_ web_ r)
theorem ev_u9 (k : Nat) (l_ : List (T2).T) (web_ : T6.T) : ∀ j, (∀ (y0 : List (T2).T) (y1 : Bool) (y2 : List (T2).T) (y3 : Int) (y4 : Int) (y5 : Int) (y6 : Int) (y7 : List (T2).T) (y8 : List ((I).T × (I).T)), E_u9 l_ web_ (placeAt Try.f48 8) (st_u9_8 y0 y1 y2 y3 y4 y5 y6 y7 y8) (f_u9_8 k j y0 y1 y2 y3 y4 y5 y6 y7 y8)) ∧ (∀ (y0 : List (T2).T) (y1 : List (T2).T) (y2 : Int) (y3 : Int) (y4 : Int) (y5 : Int) (y6 : List (T2).T) (y7 : List ((I).T × (I).T)), E_u9 l_ web_ (placeAt Try.f48 20) (st_u9_20 y0 y1 y2 y3 y4 y5 y6 y7) (f_u9_20 k j y0 y1 y2 y3 y4 y5 y6 y7)) ∧ (∀ (y0 : List (T2).T) (y1 : List (T2).T) (y2 : Int) (y3 : Int) (y4 : List (T2).T) (y5 : Int) (y6 : Int) (y7 : Int) (y8 : Int) (y9 : List (T2).T) (y10 : List ((I).T × (I).T)) (y11 : T2.T), E_u9 l_ web_ (placeAt Try.f48 23) (st_u9_23 y0 y1 y2 y3 y4 y5 y6 y7 y8 y9 y10 y11) (f_u9_23 k j y0 y1 y2 y3 y4 y5 y6 y7 y8 y9 y10 y11))
  | 0 => ⟨fun _ _ _ _ _ _ _ _ _ _ h => (nomatch h), fun _ _ _ _ _ _ _ _ _ h => (nomatch h), fun _ _ _ _ _ _ _ _ _ _ _ _ _ h => (nomatch h)⟩
  | j + 1 => by
    have ih := @ev_u9 k l_ web_ j
    refine ⟨?_, ?_, ?_⟩
    · intro y0 y1 y2 y3 y4 y5 y6 y7 y8 r h
      rw [f_u9_8] at h
      exact go (K_u9 k) [] cs_u9 [.autoB [4, 5] true []] (gT h (fun c h => gN2 h fun h => gN1 h (fun q => cc_u13 q) fun h => gT h (fun c h => gL h) fun c h => gN1 h (fun q => cc_u14 q) fun h => gT h (fun c h => gC h 8 (ih.1 _ _ _ _ _ _ _ _ _ _)) fun c h => gC h 8 (ih.1 _ _ _ _ _ _ _ _ _ _)) fun c h => gT h (fun c h => gL h) fun c h => gC h 20 (ih.2.1 _ _ _ _ _ _ _ _ _)) (by kernel_rfl)
    · intro y0 y1 y2 y3 y4 y5 y6 y7 r h
      rw [f_u9_20] at h
      exact go (K_u9 k) [] cs_u9 [.autoB [4, 5] true []] (gT h (fun c h => gN2 h fun h => gN h (fun q => conjC q.1 (conjC q.2.1 (conjC q.2.2 conj0))) fun h => gC h 23 (ih.2.2 _ _ _ _ _ _ _ _ _ _ _ _ _)) fun c h => gL h) (by kernel_rfl)
    · intro y0 y1 y2 y3 y4 y5 y6 y7 y8 y9 y10 y11 r h
      rw [f_u9_23] at h
      exact go (K_u9 k) [] cs_u9 [.autoB [4, 5] true []] (gT h (fun c h => gN2 h fun h => gT h (fun c h => gN h (fun q => conjC q.1 (conjC (cc_u10 q.2) conj0)) fun h => gT h (fun c h => gL h) fun c h => gC h 23 (ih.2.2 _ _ _ _ _ _ _ _ _ _ _ _ _)) fun c h => gN1 h id fun h => gU2 h (.leaf (.tup [.r (.v (Value.pointer none)), .r (.v (.int .i64 12))]) []) fun h => gC h 23 (ih.2.2 _ _ _ _ _ _ _ _ _ _ _ _ _)) fun c h => gC h 20 (ih.2.1 _ _ _ _ _ _ _ _ _)) (by kernel_rfl)
theorem of_u9 (k : Nat) (l_ : List (T2).T) (web_ : T6.T) (r : R_u9) (h : f_u9 k l_ web_ = some r) : C_u9 l_ web_ r := by
  refine CC.of (fn := Try.f48) (by kernel_rfl) (by kernel_rfl) (by kernel_rfl) (by kernel_rfl) ?_
  unfold f_u9 at h
  exact go (K_u9 k) [] cs_u9 [.autoB [4, 5] true []] (gT h (fun c h => gL h) fun c h => gT h (fun c h => gL h) fun c h => gC h 8 ((ev_u9 k l_ web_ k).1 _ _ _ _ _ _ _ _ _ _)) (by kernel_rfl)
theorem cc_u9 {k : Nat} {l_ : List (T2).T} {web_ : T6.T} (h : (f_u9 k l_ web_).isSome = true) : C_u9 l_ web_ (v_u9 k l_ web_) := ccG (Φ := C_u9 l_ web_) h (of_u9 k l_ web_)
theorem ccA_u9 {k : Nat} {l_ : List (T2).T} {web_ : T6.T} (h : (f_u9 k l_ web_).isSome = true) (hb : (v_u9 k l_ web_).isLeft = true) : CA_u9 l_ web_ (vA_u9 k l_ web_) := ccAG (Φ := C_u9 l_ web_) (cc_u9 h) hb
theorem ccB_u9 {k : Nat} {l_ : List (T2).T} {web_ : T6.T} (h : (f_u9 k l_ web_).isSome = true) (hb : (v_u9 k l_ web_).isLeft = false) : CB_u9 l_ web_ (vB_u9 k l_ web_) := ccBG (Φ := C_u9 l_ web_) (cc_u9 h) hb

end
def Wl (p : List Ro) : Prop := ∀ r ∈ p, Small r.2.2
theorem Wl.size {p : List Ro} {W L : Int} (h : Wl p) (hW : 0 ≤ W ∧ W ≤ 12000) (id : Int) : 0 ≤ (sizeS p W L id).1 ∧ (sizeS p W L id).1 ≤ 12000 := by
  unfold sizeS
  by_cases h0 : id = 0
  · rw [if_pos h0]; exact hW
  · rw [if_neg h0]
    cases e : look p id with
    | none => exact ⟨by decide, by decide⟩
    | some q =>
      obtain ⟨a, b, c, _⟩ := h q (look_some e).1
      exact ⟨by show 0 ≤ q.2.2.2.1; omega, by show q.2.2.2.1 ≤ _; omega⟩
theorem Wl.snoc {p : List Ro} {W L : Int} {r : Ro} (h : Wl p) (hW : 0 ≤ W ∧ W ≤ 12000) (f : fitsS p W L r = 0) : Wl (p ++ [r]) := by
  obtain ⟨_, _, _, c⟩ := fitsS_zero.1 f
  obtain ⟨s1, s2⟩ := h.size (L := L) hW r.2.1
  intro q hq
  rcases List.mem_append.1 hq with hq | hq
  · exact h q hq
  · rw [List.mem_singleton] at hq
    subst hq
    have := c.right
    exact ⟨c.left, c.width, by omega, c.chk⟩

theorem fam_size_s (k : Nat) (hk : 2100 ≤ k) (W L : Int) (p t : List Ro) (M : List (Int × Int)) (id : Int) (hp : Wl p) (hM : RegOk M p) (h : id = 0 ∨ ∃ q, look p id = some q) : f_u16 k W L (p ++ t) M id = some (sizeS p W L id) := by
  unfold f_u16 sizeS
  by_cases h0 : id = 0
  · rw [if_pos h0, show (id == 0) = true from beq_iff_eq.2 h0, cond_true]
  · rw [if_neg h0, show (id == 0) = false from beq_false_of_ne h0, cond_false]
    rcases h with h | ⟨q, h⟩
    · exact absurd h h0
    · obtain ⟨i, e1, e2, e3⟩ := (hM id).some h
      have hl : (p ++ t).length = p.length + t.length := List.length_append
      have hs := hp q (look_some h).1
      have hi : (i : Int) < ((p ++ t).length : Int) := by omega
      rw [e1, Option.getD_some, if_pos ⟨by omega, hi⟩, Int.toNat_natCast, getD_app _ _ _ _ e2, e3, h]
      show (if (f_u33 k q.2.2.2.2.2).isSome = true then some (q.2.2.2.1, (v_u33 k q.2.2.2.2.2).1) else none) = _
      rw [iso_Length_s k hk _ hs.chk, iso_Length_v k hk _ hs.chk]
      rfl
theorem fam_size_v (k : Nat) (hk : 2100 ≤ k) (W L : Int) (p t : List Ro) (M : List (Int × Int)) (id : Int) (hp : Wl p) (hM : RegOk M p) (h : id = 0 ∨ ∃ q, look p id = some q) : v_u16 k W L (p ++ t) M id = sizeS p W L id := by
  unfold v_u16; rw [fam_size_s k hk W L p t M id hp hM h]; rfl

theorem fam_fits_17 (k : Nat) (W L : Int) (l : List Ro) (M : List (Int × Int)) (r : Ro) (n : Int) (m : List Rn) (hm : goods m) (hl : m.length ≤ 256) : ∀ (d i j : Nat), i + d = m.length → d < j →
    f_u13_17 k W L l M r j n m (m.length : Int) (i : Int) = some (if fitsIn n (m.drop i) then 0 else 21) := by
  intro d
  induction d with
  | zero =>
    intro i j hi hj
    obtain ⟨j, rfl⟩ : ∃ q, j = q + 1 := ⟨j - 1, by omega⟩
    rw [f_u13_17, decide_eq_false (by omega : ¬ (i : Int) < (m.length : Int)), cond_false, List.drop_of_length_le (by omega), if_pos (by trivial)]
  | succ d ih =>
    intro i j hi hj
    obtain ⟨j, rfl⟩ : ∃ q, j = q + 1 := ⟨j - 1, by omega⟩
    have hg : good (m.getD i T0.dflt) := hm.mem _ (getD_mem' _ _ _ (by omega))
    rw [f_u13_17, decide_eq_true (by omega : (i : Int) < (m.length : Int)), cond_true, if_pos ⟨by omega, by omega⟩, Int.toNat_natCast, fam_bounds_s k _ hg, fam_bounds_v k _ hg, Option.isSome_some, if_pos rfl, drop_cons' m i T0.dflt (by omega), wrapS i (by omega)]
    show (bif decide (Go.AM.hi (m.getD i T0.dflt) ≥ n) then _ else _) = _
    by_cases h : Go.AM.hi (m.getD i T0.dflt) ≥ n
    · rw [decide_eq_true h, cond_true, if_neg (fun e : fitsIn n (m.getD i T0.dflt :: m.drop (i + 1)) => by have := e.1; omega)]
    · rw [decide_eq_false h, cond_false, ih (i + 1) j (by omega) (by omega)]
      by_cases h2 : fitsIn n (m.drop (i + 1))
      · rw [if_pos h2, if_pos (show fitsIn n (m.getD i T0.dflt :: m.drop (i + 1)) from ⟨by omega, h2⟩)]
      · rw [if_neg h2, if_neg (fun e : fitsIn n (m.getD i T0.dflt :: m.drop (i + 1)) => h2 e.2)]
theorem cut_test (c : Ch) (w : Int) (hw : 0 ≤ w ∧ w ≤ 12000) : (decide (c.1 < (0 : Int)) || decide (c.2.1 < (1 : Int)) || decide (c.1 > w) || decide (c.2.1 > IntKind.i64.wrap (w - c.1))) = decide (c.1 < 0 ∨ c.2.1 < 1 ∨ c.1 > w ∨ c.2.1 > w - c.1) := by
  by_cases h1 : c.1 < 0
  · rw [decide_eq_true h1, Bool.true_or, Bool.true_or, Bool.true_or, decide_eq_true (Or.inl h1)]
  · by_cases h2 : c.2.1 < 1
    · rw [decide_eq_true h2, Bool.or_true, Bool.true_or, Bool.true_or, decide_eq_true (Or.inr (Or.inl h2))]
    · by_cases h3 : c.1 > w
      · rw [decide_eq_true h3, Bool.or_true, Bool.true_or, decide_eq_true (Or.inr (Or.inr (Or.inl h3)))]
      · rw [decide_eq_false h1, decide_eq_false h2, decide_eq_false h3, wrap_id (by omega) (by omega), Bool.or_false, Bool.or_false, Bool.false_or]
        by_cases h4 : c.2.1 > w - c.1
        · rw [decide_eq_true h4, decide_eq_true (Or.inr (Or.inr (Or.inr h4)))]
        · rw [decide_eq_false h4, decide_eq_false (by omega)]
theorem fam_fits_tail (k : Nat) (hk : 2100 ≤ k) (W L : Int) (l : List Ro) (M : List (Int × Int)) (r : Ro) (c : Ch) (w n : Int) (hw : 0 ≤ w ∧ w ≤ 12000) :
    (bif (decide (c.1 < (0 : Int)) || decide (c.2.1 < (1 : Int)) || decide (c.1 > w) || decide (c.2.1 > IntKind.i64.wrap (w - c.1))) then some 20
     else if ((f_u28 k c.2.2.2).isSome = true) then
       bif (v_u28 k c.2.2.2 != (0 : Int)) then some (v_u28 k c.2.2.2)
       else bif ((↑ (List.length c.2.2.2) : Int) == (0 : Int)) then some 10
       else if ((f_u35 k c.2.2.2).isSome = true) then
         bif (!v_u35 k c.2.2.2) then some 12
         else f_u13_17 k W L l M r k n c.2.2.2 ((↑ (List.length c.2.2.2) : Int)) 0
       else none
     else none) = some (cutE c w n) := by
  unfold cutE
  rw [cut_test c w hw, iso_Check_s k (by omega), iso_Check_v k (by omega), Option.isSome_some, if_pos rfl, iso_Single_s k hk, iso_Single_v k hk, Option.isSome_some, if_pos rfl]
  by_cases h1 : c.1 < 0 ∨ c.2.1 < 1 ∨ c.1 > w ∨ c.2.1 > w - c.1
  · rw [decide_eq_true h1, cond_true, if_pos h1]
  · rw [decide_eq_false h1, cond_false, if_neg h1]
    by_cases h2 : chk c.2.2.2 = 0
    · have hc := chk_zero.1 h2
      have hl := hc.len
      rw [show (chk c.2.2.2 != 0) = false by simp [h2], cond_false, if_neg (fun h : chk c.2.2.2 ≠ 0 => h h2)]
      by_cases h3 : c.2.2.2 = []
      · rw [h3, if_pos rfl]; rfl
      · rw [if_neg h3, show (((List.length c.2.2.2 : Nat) : Int) == 0) = false from beq_false_of_ne (fun e => h3 (List.length_eq_zero_iff.1 (by omega))), cond_false]
        cases h4 : singleS c.2.2.2
        · rfl
        · rw [Bool.not_true, cond_false, if_neg (by decide)]
          refine (fam_fits_17 k W L l M r n c.2.2.2 hc.goods hl c.2.2.2.length 0 k (by omega) (by omega)).trans ?_
          rw [List.drop_zero]
    · rw [show (chk c.2.2.2 != 0) = true by simp [h2], cond_true, if_pos h2]
theorem fam_fits_s (k : Nat) (hk : 2100 ≤ k) (W L : Int) (hW : 0 ≤ W ∧ W ≤ 12000) (p t : List Ro) (M : List (Int × Int)) (r : Ro) (hp : Wl p) (hM : RegOk M p) : f_u13 k W L (p ++ t) M r = some (fitsS p W L r) := by
  unfold f_u13 fitsS
  by_cases h1 : r.1 < 1 ∨ r.1 > 1000000
  · rw [if_pos h1, show (decide (r.1 < 1) || decide (r.1 > 1000000)) = true by simpa using h1, cond_true]
  · rw [if_neg h1, show (decide (r.1 < 1) || decide (r.1 > 1000000)) = false by simp; omega, cond_false]
    have hs := hp.size (L := L) hW r.2.1
    by_cases h2 : r.2.1 = 0
    · rw [show (r.2.1 != 0) = false by simp [h2], cond_false, if_pos rfl, if_neg (fun h : r.2.1 ≠ 0 ∧ look p r.2.1 = none => h.1 h2), fam_size_s k hk W L p t M r.2.1 hp hM (.inl h2), fam_size_v k hk W L p t M r.2.1 hp hM (.inl h2), Option.isSome_some, if_pos rfl]
      exact fam_fits_tail k hk W L (p ++ t) M r r.2.2 _ _ hs
    · have hkn : v_u14 k W L (p ++ t) M r.2.1 = (mget I r.2.1 M).isSome := by unfold v_u14 f_u14; rfl
      rw [show (r.2.1 != 0) = true by simp [h2], cond_true, if_pos ⟨rfl, rfl⟩, hkn, Bool.true_and]
      cases e : look p r.2.1 with
      | none => rw [(hM r.2.1).none e, if_pos (show r.2.1 ≠ 0 ∧ (none : Option Ro) = none from ⟨h2, rfl⟩)]; rfl
      | some q =>
        obtain ⟨i, e1, e2, e3⟩ := (hM r.2.1).some e
        rw [e1, if_neg (show ¬ (r.2.1 ≠ 0 ∧ some q = none) from fun h => nomatch h.2), Option.isSome_some, Bool.not_true, cond_false, fam_size_s k hk W L p t M r.2.1 hp hM (.inr ⟨q, e⟩), fam_size_v k hk W L p t M r.2.1 hp hM (.inr ⟨q, e⟩), Option.isSome_some, if_pos rfl]
        exact fam_fits_tail k hk W L (p ++ t) M r r.2.2 _ _ hs
theorem fam_fits_v (k : Nat) (hk : 2100 ≤ k) (W L : Int) (hW : 0 ≤ W ∧ W ≤ 12000) (p t : List Ro) (M : List (Int × Int)) (r : Ro) (hp : Wl p) (hM : RegOk M p) : v_u13 k W L (p ++ t) M r = fitsS p W L r := by
  unfold v_u13; rw [fam_fits_s k hk W L hW p t M r hp hM]; rfl

theorem fam_open_23 (k : Nat) (hk : 70000 ≤ k) (l : List Ro) (n i W L : Int) (M : List (Int × Int)) (r : Ro) (hr : Small r.2.2) (p : List Ro) (hp : Wl p) (hpl : p.length ≤ 512) : ∀ (d q m : Nat), q + d = p.length →
    f_u9_23 k (m + d + 1) l l n i p (p.length : Int) (q : Int) W L l M r = if clash (p.drop q) r = true then some (.inl 12) else f_u9_20 k m l l n (IntKind.i64.wrap (i + 1)) W L l M := by
  intro d
  induction d with
  | zero =>
    intro q m hq
    rw [f_u9_23, decide_eq_false (by omega : ¬ (q : Int) < (p.length : Int)), cond_false, List.drop_of_length_le (by omega), if_neg (by unfold clash; rw [List.any_nil]; decide)]
  | succ d ih =>
    intro q m hq
    have hs : Small (p.getD q T2.dflt).2.2 := hp _ (getD_mem' _ _ _ (by omega))
    have hc : clash (p.drop q) r = ((r.2.1 == (p.getD q T2.dflt).2.1) && ovlS r.2.2 (p.getD q T2.dflt).2.2 || clash (p.drop (q + 1)) r) := by
      unfold clash; rw [drop_cons' p q T2.dflt (by omega), List.any_cons]
    rw [show m + (d + 1) + 1 = (m + d + 1) + 1 from rfl, f_u9_23, decide_eq_true (by omega : (q : Int) < (p.length : Int)), cond_true, if_pos ⟨by omega, by omega⟩, Int.toNat_natCast, wrapS q (by omega), ih (q + 1) m (by omega), hc]
    cases e : (r.2.1 == (p.getD q T2.dflt).2.1)
    · rw [cond_false, if_pos rfl, Bool.false_and, Bool.false_or]
    · rw [cond_true, Bool.true_and, fam_overlap_v k hk _ _ hr hs, if_pos ⟨rfl, by rw [fam_overlap_s k hk _ _ hr hs]; rfl⟩, Bool.true_and]
      cases ovlS r.2.2 (p.getD q T2.dflt).2.2
      · rw [cond_false, Bool.false_or]
      · rfl
set_option maxRecDepth 20000 in
theorem fam_open_20 (k : Nat) (hk : 70000 ≤ k) (l : List Ro) (W L : Int) (M : List (Int × Int)) (hl : Wl l) (hll : l.length ≤ 512) : ∀ (d i j : Nat), i + d = l.length → d * 514 < j →
    f_u9_20 k j l l (l.length : Int) (i : Int) W L l M = if clashGo (l.take i) (l.drop i) = true then some (.inl 12) else some (.inr (0, W, L, l, M)) := by
  intro d
  induction d with
  | zero =>
    intro i j hi hj
    obtain ⟨j, rfl⟩ : ∃ q, j = q + 1 := ⟨j - 1, by omega⟩
    rw [f_u9_20, decide_eq_false (by omega : ¬ (i : Int) < (l.length : Int)), cond_false, List.drop_of_length_le (by omega), clashGo, if_neg (by decide)]
  | succ d ih =>
    intro i j hi hj
    obtain ⟨j, rfl⟩ : ∃ q, j = (q + (l.take i).length + 1) + 1 := ⟨j - (l.take i).length - 2, by rw [List.length_take]; omega⟩
    rw [List.length_take] at hj
    have hs : Small (l.getD i T2.dflt).2.2 := hl _ (getD_mem' _ _ _ (by omega))
    have h23 := fam_open_23 k hk l (l.length : Int) (i : Int) W L M (l.getD i T2.dflt) hs (l.take i) (fun r hr => hl r (List.mem_of_mem_take hr)) (by rw [List.length_take]; omega) (l.take i).length 0 j (by omega)
    rw [f_u9_20, decide_eq_true (by omega : (i : Int) < (l.length : Int)), cond_true, if_pos ⟨by omega, by omega⟩, if_pos ⟨by omega, by omega, by omega⟩, Int.toNat_natCast, Int.toNat_zero, List.drop_zero, Nat.sub_zero]
    refine h23.trans ?_
    rw [List.drop_zero, wrapS i (by omega), ih (i + 1) j (by omega) (by omega), drop_cons' l i T2.dflt (by omega), clashGo, take_snoc l i T2.dflt (by omega)]
    cases clash (l.take i) (l.getD i T2.dflt)
    · rw [if_neg (by decide), Bool.false_or]
    · rfl
theorem fam_open_8 (k : Nat) (hk : 300000 ≤ k) (l : List Ro) (W L : Int) (hW : 0 ≤ W ∧ W ≤ 12000) (hll : l.length ≤ 512) : ∀ (d i j : Nat) (dup : Bool) (M : List (Int × Int)), i + d = l.length → d + 1 + 263168 < j → RegOk M (l.take i) → Wl (l.take i) →
    ∃ M', (errsGo W L (l.take i) (l.drop i) = 0 → RegOk M' l ∧ Wl l) ∧ f_u9_8 k j l dup l (l.length : Int) (i : Int) W L l M =
      if errsGo W L (l.take i) (l.drop i) ≠ 0 then some (.inl (errsGo W L (l.take i) (l.drop i))) else if (dup || dupGo (l.take i) (l.drop i)) = true then some (.inl 6) else if clashGo [] l = true then some (.inl 12) else some (.inr (0, W, L, l, M')) := by
  intro d
  induction d with
  | zero =>
    intro i j dup M hi hj hM hw
    obtain ⟨j, rfl⟩ : ∃ q, j = q + 1 := ⟨j - 1, by omega⟩
    have h20 := fam_open_20 k (by omega) l W L M (by rw [List.take_of_length_le (by omega)] at hw; exact hw) hll l.length 0 j (by omega) (by omega)
    rw [List.take_of_length_le (by omega : l.length ≤ i)] at hM hw
    refine ⟨M, fun _ => ⟨hM, hw⟩, ?_⟩
    rw [f_u9_8, decide_eq_false (by omega : ¬ (i : Int) < (l.length : Int)), cond_false, List.drop_of_length_le (by omega), errsGo, if_neg (fun h => h rfl), dupGo, Bool.or_false]
    cases dup
    · rw [cond_false, if_neg (by decide)]
      exact h20
    · rfl
  | succ d ih =>
    intro i j dup M hi hj hM hw
    obtain ⟨j, rfl⟩ : ∃ q, j = q + 1 := ⟨j - 1, by omega⟩
    have hf := fam_fits_s k (by omega) W L hW (l.take i) (l.drop i) M (l.getD i T2.dflt) hw hM
    have hv := fam_fits_v k (by omega) W L hW (l.take i) (l.drop i) M (l.getD i T2.dflt) hw hM
    rw [List.take_append_drop] at hf hv
    have hkn : v_u14 k W L l M (l.getD i T2.dflt).1 = (mget I (l.getD i T2.dflt).1 M).isSome := by unfold v_u14 f_u14; rfl
    have ht := take_snoc l i T2.dflt (by omega)
    by_cases h1 : fitsS (l.take i) W L (l.getD i T2.dflt) = 0
    · have hw2 : Wl (l.take (i + 1)) := by rw [ht]; exact hw.snoc hW h1
      cases e : look (l.take i) (l.getD i T2.dflt).1 with
      | none =>
        have hM2 : RegOk (mset I (l.getD i T2.dflt).1 (i : Int) M) (l.take (i + 1)) := by
          have := regOk_new hM (l.getD i T2.dflt) e
          rw [ht]
          rw [List.length_take, show min i l.length = i by omega] at this
          exact this
        obtain ⟨M', m1, m2⟩ := ih (i + 1) j dup _ (by omega) (by omega) hM2 hw2
        rw [ht] at m1 m2
        rw [drop_cons' l i T2.dflt (by omega), errsGo, if_neg (fun h => h h1), dupGo, e]
        refine ⟨M', m1, ?_⟩
        rw [f_u9_8, decide_eq_true (by omega : (i : Int) < (l.length : Int)), cond_true, if_pos ⟨by omega, by omega⟩, Int.toNat_natCast, hf, hv, Option.isSome_some, if_pos rfl, h1]
        show (bif v_u14 k W L l M (l.getD i T2.dflt).1 then _ else _) = _
        rw [hkn, (hM _).none e, wrapS i (by omega)]
        exact m2
      | some q =>
        have hM2 : RegOk M (l.take (i + 1)) := by
          have := regOk_old hM (l.getD i T2.dflt) (by rw [e]; rfl)
          rw [ht]
          exact this
        obtain ⟨M', m1, m2⟩ := ih (i + 1) j true _ (by omega) (by omega) hM2 hw2
        rw [ht] at m1 m2
        rw [drop_cons' l i T2.dflt (by omega), errsGo, if_neg (fun h => h h1), dupGo, e]
        refine ⟨M', m1, ?_⟩
        obtain ⟨a, b, _, _⟩ := (hM _).some e
        rw [f_u9_8, decide_eq_true (by omega : (i : Int) < (l.length : Int)), cond_true, if_pos ⟨by omega, by omega⟩, Int.toNat_natCast, hf, hv, Option.isSome_some, if_pos rfl, h1]
        show (bif v_u14 k W L l M (l.getD i T2.dflt).1 then _ else _) = _
        rw [hkn, b, wrapS i (by omega), Option.isSome_some, Option.isSome_some, Bool.true_or, Bool.or_true]
        rw [Bool.true_or] at m2
        exact m2
    · rw [drop_cons' l i T2.dflt (by omega), errsGo, if_pos h1]
      refine ⟨M, fun h => absurd h h1, ?_⟩
      rw [f_u9_8, decide_eq_true (by omega : (i : Int) < (l.length : Int)), cond_true, if_pos ⟨by omega, by omega⟩, Int.toNat_natCast, hf, hv, Option.isSome_some, if_pos rfl, show (fitsS (l.take i) W L (l.getD i T2.dflt) != 0) = true from bne_iff_ne.2 h1, cond_true, if_pos h1]
/-- the opening of a register -/
theorem fam_open (k : Nat) (hk : 300000 ≤ k) (l : List Ro) (web : Int × Int) : (checkS l web.1 web.2 ≠ 0 → f_u9 k l web = some (.inl (checkS l web.1 web.2))) ∧ (checkS l web.1 web.2 = 0 → ∃ M, RegOk M l ∧ Wl l ∧ f_u9 k l web = some (.inr (0, web.1, web.2, l, M))) := by
  obtain ⟨W, L⟩ := web
  show (checkS l W L ≠ 0 → f_u9 k l (W, L) = some (.inl (checkS l W L))) ∧ (checkS l W L = 0 → ∃ M, RegOk M l ∧ Wl l ∧ f_u9 k l (W, L) = some (.inr (0, W, L, l, M)))
  unfold f_u9 checkS
  show ((if _ then _ else _ : Int) ≠ 0 → (bif decide (W < (1 : Int)) || decide (W > (12000 : Int)) || decide (L < (0 : Int)) || decide (L > (17179869184 : Int)) then some (.inl 1) else bif _ then _ else f_u9_8 k k l false l (l.length : Int) 0 W L l []) = _) ∧ (_ → ∃ M, RegOk M l ∧ Wl l ∧ (bif decide (W < (1 : Int)) || decide (W > (12000 : Int)) || decide (L < (0 : Int)) || decide (L > (17179869184 : Int)) then some (.inl 1) else bif _ then _ else f_u9_8 k k l false l (l.length : Int) 0 W L l []) = _)
  by_cases h1 : W < 1 ∨ W > 12000 ∨ L < 0 ∨ L > 17179869184
  · rw [if_pos h1, show (decide (W < (1 : Int)) || decide (W > (12000 : Int)) || decide (L < (0 : Int)) || decide (L > (17179869184 : Int))) = true by simp; omega]
    exact ⟨fun _ => rfl, fun h => absurd h (by decide)⟩
  · rw [if_neg h1, show (decide (W < (1 : Int)) || decide (W > (12000 : Int)) || decide (L < (0 : Int)) || decide (L > (17179869184 : Int))) = false by simp; omega, cond_false]
    by_cases h2 : l.length > 512
    · rw [if_pos h2, decide_eq_true (by omega : (l.length : Int) > 512)]
      exact ⟨fun _ => rfl, fun h => absurd h (by decide)⟩
    · rw [if_neg h2, decide_eq_false (by omega : ¬ (l.length : Int) > 512), cond_false]
      obtain ⟨M, m1, m2⟩ := fam_open_8 k hk l W L (by omega) (by omega) l.length 0 k false [] (by omega) (by omega) (by rw [List.take_zero]; exact regOk_nil) (fun r hr => by simp at hr)
      rw [List.take_zero, List.drop_zero, Bool.false_or] at m2
      rw [List.take_zero, List.drop_zero] at m1
      rw [show f_u9_8 k k l false l (l.length : Int) 0 W L l [] = _ from m2]
      by_cases h3 : errsGo W L [] l = 0
      · rw [if_neg (fun h : errsGo W L [] l ≠ 0 => h h3), if_neg (fun h : errsGo W L [] l ≠ 0 => h h3)]
        have ff : ¬ (false = true) := Bool.false_ne_true
        have tt : true = true := rfl
        cases dupGo [] l
        · rw [if_neg ff, if_neg ff]
          cases clashGo [] l
          · rw [if_neg ff, if_neg ff]
            exact ⟨fun h => absurd rfl h, fun _ => ⟨M, (m1 h3).1, (m1 h3).2, rfl⟩⟩
          · rw [if_pos tt, if_pos tt]
            exact ⟨fun _ => rfl, fun h => absurd h (by decide)⟩
        · rw [if_pos tt, if_pos tt]
          exact ⟨fun _ => rfl, fun h => absurd h (by decide)⟩
      · rw [if_pos h3, if_pos h3]
        exact ⟨fun _ => rfl, fun h => absurd h h3⟩
end Go.AM
namespace Go.AM
open Go

/-! ### what a valid register says of its rolls -/
theorem look_left {a : List Ro} {id : Int} {q : Ro} (b : List Ro) (h : look a id = some q) : look (a ++ b) id = some q := by
  rw [look_append, h]; rfl
theorem size_left {a : List Ro} {W L id : Int} (b : List Ro) (h : id = 0 ∨ ∃ q, look a id = some q) : sizeS (a ++ b) W L id = sizeS a W L id := by
  unfold sizeS
  by_cases h0 : id = 0
  · rw [if_pos h0, if_pos h0]
  · rw [if_neg h0, if_neg h0]
    rcases h with h | ⟨q, h⟩
    · exact absurd h h0
    · rw [look_left b h, h]
structure RollOk (l : List Ro) (W L : Int) (r : Ro) : Prop where
  look : look l r.1 = some r
  pos : 1 ≤ r.1
  parent : r.2.1 = 0 ∨ ∃ q, Go.AM.look l r.2.1 = some q
  cut : CutOk r.2.2 (sizeS l W L r.2.1).1 (sizeS l W L r.2.1).2
theorem Okp.ro {W L : Int} {l : List Ro} (h : Okp W L l) : ∀ r ∈ l, RollOk l W L r := by
  induction h with
  | nil => intro r hr; simp at hr
  | snoc p r h f n c ih =>
    intro x hx
    rcases List.mem_append.1 hx with hx | hx
    · obtain ⟨a, b, c, d⟩ := ih x hx
      refine ⟨look_left _ a, b, ?_, by rw [size_left _ c]; exact d⟩
      rcases c with c | ⟨q, c⟩
      · exact .inl c
      · exact .inr ⟨q, look_left _ c⟩
    · rw [List.mem_singleton] at hx
      subst hx
      obtain ⟨a, b, c, d⟩ := f
      refine ⟨?_, a, ?_, by rw [size_left _ c]; exact d⟩
      · rw [look_append, n, Option.none_or]; unfold Go.AM.look; simp
      · rcases c with c | ⟨q, c⟩
        · exact .inl c
        · exact .inr ⟨q, look_left _ c⟩
/-- a roll that is cut from the web in n cuts at the most -/
inductive Anc (l : List Ro) : Nat → Int → Prop
  | root (n : Nat) : Anc l n 0
  | step (n : Nat) (id : Int) (r : Ro) (h0 : id ≠ 0) (h : look l id = some r) (a : Anc l n r.2.1) : Anc l (n + 1) id
theorem Anc.mono {l : List Ro} {n m : Nat} {id : Int} (h : Anc l n id) (hm : n ≤ m) : Anc l m id := by
  induction h generalizing m with
  | root n => exact .root m
  | step n id r h0 h a ih =>
    obtain ⟨m, rfl⟩ : ∃ q, m = q + 1 := ⟨m - 1, by omega⟩
    exact .step m id r h0 h (ih (by omega))
theorem Anc.left {l : List Ro} {n : Nat} {id : Int} (h : Anc l n id) (t : List Ro) : Anc (l ++ t) n id := by
  induction h with
  | root n => exact .root n
  | step n id r h0 h a ih => exact .step n id r h0 (look_left t h) ih
theorem Okp.anc {W L : Int} {l : List Ro} (h : Okp W L l) : ∀ r ∈ l, Anc l l.length r.1 := by
  induction h with
  | nil => intro r hr; simp at hr
  | snoc p r h f n c ih =>
    intro x hx
    rw [List.length_append, List.length_singleton]
    rcases List.mem_append.1 hx with hx | hx
    · exact ((ih x hx).mono (by omega)).left _
    · rw [List.mem_singleton] at hx
      subst hx
      obtain ⟨a, b, c, d⟩ := f
      refine .step p.length x.1 x (by omega) (by rw [look_append, n, Option.none_or]; unfold look; simp) ?_
      rcases c with c | ⟨q, c⟩
      · rw [c]; exact .root _
      · have := (ih q (look_some c).1).left [x]
        rw [(look_some c).2] at this
        exact this
theorem Reg.anc {W L : Int} {l : List Ro} (h : Reg l W L) {id : Int} (hi : id = 0 ∨ ∃ q, look l id = some q) : Anc l 512 id := by
  rcases hi with rfl | ⟨q, e⟩
  · exact .root _
  · have := h.ok.anc q (look_some e).1
    rw [(look_some e).2] at this
    exact this.mono h.num
theorem Reg.small {W L : Int} {l : List Ro} (h : Reg l W L) : ∀ (n : Nat) (id : Int), Anc l n id → 0 ≤ (sizeS l W L id).1 ∧ (sizeS l W L id).1 ≤ 12000 ∧ 0 ≤ (sizeS l W L id).2 ∧ (sizeS l W L id).2 ≤ 17179869184 := by
  intro n id ha
  have hw := h.w
  have hl := h.len
  induction ha with
  | root n => unfold sizeS; rw [if_pos rfl]; omega
  | step n id r h0 e a ih =>
    have ro := h.ok.ro r (look_some e).1
    obtain ⟨c1, c2, c3, c4, _⟩ := ro.cut
    have h1 : (sizeS l W L id) = (r.2.2.2.1, lenS r.2.2.2.2.2) := by unfold sizeS; rw [if_neg h0, e]
    rw [h1]
    have h2 := lenS_nonneg c4.goods
    have h3 := c4.tot
    refine ⟨?_, ?_, ?_, ?_⟩
    · show 0 ≤ r.2.2.2.1; omega
    · show r.2.2.2.1 ≤ _; omega
    · show 0 ≤ lenS r.2.2.2.2.2; omega
    · show lenS r.2.2.2.2.2 ≤ _; omega

/-! ### points -/
def placeS (r : Ro) (p : Pt) : Pt := (r.2.1, (if r.2.2.2.2.1 = true then r.2.2.1 + r.2.2.2.1 - 1 - p.2.1 else r.2.2.1 + p.2.1), imgAt r.2.2.2.2.2 p.2.2)
structure On (l : List Ro) (W L : Int) (p : Pt) : Prop where
  a0 : 0 ≤ p.2.1
  a1 : p.2.1 < (sizeS l W L p.1).1
  b0 : 0 ≤ p.2.2
  b1 : p.2.2 < (sizeS l W L p.1).2
theorem imgAt_mem : ∀ {m : List Rn} {x : Int}, goods m → 0 ≤ x → x < lenS m → ∃ r ∈ m, lo r ≤ imgAt m x ∧ imgAt m x ≤ hi r
  | [], x, _, h0, h1 => by simp [lenS] at h1; omega
  | r :: t, x, ⟨g1, g2⟩, h0, h1 => by
    rw [lenS] at h1
    unfold imgAt
    by_cases h : x < r.2.1
    · rw [if_pos h]
      exact ⟨r, by simp, img_mem h0 h⟩
    · rw [if_neg h]
      obtain ⟨q, hq, a⟩ := imgAt_mem g2 (by omega : 0 ≤ x - r.2.1) (by omega)
      exact ⟨q, by simp [hq], a⟩
theorem fits_mem {n : Int} : ∀ {l : List Rn}, fitsIn n l → ∀ r ∈ l, hi r < n
  | [], _, r, h => by simp at h
  | u :: t, ⟨h1, h2⟩, r, hr => by
    rcases List.mem_cons.1 hr with rfl | hr
    · exact h1
    · exact fits_mem h2 r hr
theorem On.place {l : List Ro} {W L : Int} {p : Pt} {r : Ro} (hp : p.1 ≠ 0) (h : On l W L p) (e : look l p.1 = some r) (ro : RollOk l W L r) : On l W L (placeS r p) := by
  obtain ⟨a0, a1, b0, b1⟩ := h
  obtain ⟨c1, c2, c3, c4, c5, c6, c7⟩ := ro.cut
  have h1 : (sizeS l W L p.1) = (r.2.2.2.1, lenS r.2.2.2.2.2) := by unfold sizeS; rw [if_neg hp, e]
  rw [h1] at a1 b1
  have a1 : p.2.1 < r.2.2.2.1 := a1
  have b1 : p.2.2 < lenS r.2.2.2.2.2 := b1
  obtain ⟨x, hx, i1, i2⟩ := imgAt_mem c4.goods b0 b1
  have h2 := fits_mem c7 x hx
  obtain ⟨l1, l2, l3, l4⟩ := (c4.goods.mem x hx).lohi
  refine ⟨?_, ?_, ?_, ?_⟩
  · show 0 ≤ (if r.2.2.2.2.1 = true then _ else _ : Int)
    split <;> omega
  · show (if r.2.2.2.2.1 = true then _ else _ : Int) < (sizeS l W L r.2.1).1
    split <;> omega
  · show 0 ≤ imgAt _ _; omega
  · show imgAt _ _ < (sizeS l W L r.2.1).2; omega

/-- the place of a point in the web -/
def webS (l : List Ro) : Nat → Pt → Pt
  | 0, p => p
  | n + 1, p => if p.1 = 0 then p else match look l p.1 with
    | none => p
    | some r => webS l n (placeS r p)
end Go.AM
namespace Go.AM
open Go Go.Proofs
noncomputable section
abbrev RA_u8 : Type := Int
def resA_u8 (r : RA_u8) : AV := .tup [.r (.v (Value.pointer none)), .r (.v (.int .i64 r))]
def boA_u8 (l_ : List (T2).T) (web_ : T6.T) (id_ : Int) (r : RA_u8) : List (Nat × Blk) := []
abbrev RB_u8 : Type := Int × Int × Int × List (T2).T × (List ((I).T × (I).T))
def resB_u8 (r : RB_u8) : AV := .tup [.ptr 0 0 0, .r (.v (.int .i64 r.1))]
def boB_u8 (l_ : List (T2).T) (web_ : T6.T) (id_ : Int) (r : RB_u8) : List (Nat × Blk) := [(0, .var 114 [.r (.v (.int .i64 r.2.1)), .r (.v (.int .i64 r.2.2.1)), .r (.ro T2 r.2.2.2.1), .own 1 0]), (0, .map false I I r.2.2.2.2)]
abbrev R_u8 : Type := RA_u8 ⊕ RB_u8
def res_u8 (r : R_u8) : AV := match r with
  | .inl a => resA_u8 a
  | .inr a => resB_u8 a
def bo_u8 (l_ : List (T2).T) (web_ : T6.T) (id_ : Int) (r : R_u8) : List (Nat × Blk) := match r with
  | .inl a => boA_u8 l_ web_ id_ a
  | .inr a => boB_u8 l_ web_ id_ a
def args_u8 (l_ : List (T2).T) (web_ : T6.T) (id_ : Int) : List AV := [.r (.ro T2 l_), .agg (rvs (enc T6 web_)), .r (.v (.int .i64 id_))]
def bin_u8 (l_ : List (T2).T) (web_ : T6.T) (id_ : Int) : List Blk := []
abbrev C_u8 (l_ : List (T2).T) (web_ : T6.T) (id_ : Int) (r : R_u8) : Prop := CC Try.prog 30 (args_u8 l_ web_ id_) (bin_u8 l_ web_ id_) (res_u8 r) (bo_u8 l_ web_ id_ r)
abbrev CA_u8 (l_ : List (T2).T) (web_ : T6.T) (id_ : Int) (r : RA_u8) : Prop := CC Try.prog 30 (args_u8 l_ web_ id_) (bin_u8 l_ web_ id_) (resA_u8 r) (boA_u8 l_ web_ id_ r)
abbrev CB_u8 (l_ : List (T2).T) (web_ : T6.T) (id_ : Int) (r : RB_u8) : Prop := CC Try.prog 30 (args_u8 l_ web_ id_) (bin_u8 l_ web_ id_) (resB_u8 r) (boB_u8 l_ web_ id_ r)
def f_u8 (k : Nat) (l_ : List (T2).T) (web_ : T6.T) (id_ : Int) : Option R_u8 :=
  bif (Sum.isLeft (v_u9 k l_ web_)) then
  if ((f_u9 k l_ web_).isSome = true) then
  bif (vA_u9 k l_ web_ == (0 : Int) && id_ != (0 : Int)) then
  none
  else
  if ((vA_u9 k l_ web_ == (0 : Int) && id_ != (0 : Int)) = false) then
  some ((.inl (vA_u9 k l_ web_)))
  else none
  else none
  else
  if ((f_u9 k l_ web_).isSome = true) then
  bif ((vB_u9 k l_ web_).1 == (0 : Int) && id_ != (0 : Int)) then
  if (((vB_u9 k l_ web_).1 == (0 : Int) && id_ != (0 : Int)) = true) ∧ ((f_u14 k (vB_u9 k l_ web_).2.1 (vB_u9 k l_ web_).2.2.1 (vB_u9 k l_ web_).2.2.2.1 (vB_u9 k l_ web_).2.2.2.2 id_).isSome = true) then
  bif (true && (!v_u14 k (vB_u9 k l_ web_).2.1 (vB_u9 k l_ web_).2.2.1 (vB_u9 k l_ web_).2.2.2.1 (vB_u9 k l_ web_).2.2.2.2 id_)) then
  some ((.inl 7))
  else
  some ((.inr (((vB_u9 k l_ web_).1, (vB_u9 k l_ web_).2.1, (vB_u9 k l_ web_).2.2.1, (vB_u9 k l_ web_).2.2.2.1, (vB_u9 k l_ web_).2.2.2.2))))
  else none
  else
  if (((vB_u9 k l_ web_).1 == (0 : Int) && id_ != (0 : Int)) = false) then
  some ((.inr (((vB_u9 k l_ web_).1, (vB_u9 k l_ web_).2.1, (vB_u9 k l_ web_).2.2.1, (vB_u9 k l_ web_).2.2.2.1, (vB_u9 k l_ web_).2.2.2.2))))
  else none
  else none
def v_u8 (k : Nat) (l_ : List (T2).T) (web_ : T6.T) (id_ : Int) : R_u8 := (f_u8 k l_ web_ id_).getD (.inl 0)
def vA_u8 (k : Nat) (l_ : List (T2).T) (web_ : T6.T) (id_ : Int) : RA_u8 := lft 0 (v_u8 k l_ web_ id_)
def vB_u8 (k : Nat) (l_ : List (T2).T) (web_ : T6.T) (id_ : Int) : RB_u8 := rgt ((0, 0, 0, [], [])) (v_u8 k l_ web_ id_)
def ke_u8 (k : Nat) : Ke := (30, fun xs => match xs with
  | [_, _, _] => some [false, false, false]
  | _ => none, fun xs bs => match xs, bs with
  | [.r (.ro tl__ ql_), .agg qweb_, .r (.v (.int .i64 id_))], [] => (castL tl__ T2 ql_).bind fun l_ => (decS [] T6 qweb_).bind fun web_ => some (.two (v_u8 k l_ web_ id_).isLeft (resA_u8 (vA_u8 k l_ web_ id_), boA_u8 l_ web_ id_ (vA_u8 k l_ web_ id_)) (resB_u8 (vB_u8 k l_ web_ id_), boB_u8 l_ web_ id_ (vB_u8 k l_ web_ id_)))
  | _, _ => none)
theorem of_u8 (k : Nat) (l_ : List (T2).T) (web_ : T6.T) (id_ : Int) (r : R_u8) (h : f_u8 k l_ web_ id_ = some r) : C_u8 l_ web_ id_ r := by
  refine CC.of (fn := Try.f30) (by kernel_rfl) (by kernel_rfl) (by kernel_rfl) (by kernel_rfl) ?_
  unfold f_u8 at h
  exact go (mkK [ke_u14 k, ke_u9 k]) [] [] [.autoB [6, 7] true []] (gT h (fun c h => gN1 h (fun q => ccA_u9 q (by assumption)) fun h => gT h (fun c h => gZ h (.stuck 2009)) fun c h => gN1 h id fun h => gU2 h (.leaf (.tup [.r (.v (Value.pointer none)), .r (.v (.int .i64 7))]) []) fun h => gL h) fun c h => gN1 h (fun q => ccB_u9 q (by assumption)) fun h => gT h (fun c h => gN h (fun q => conjC q.1 (conjC (cc_u14 q.2) conj0)) fun h => gT h (fun c h => gL h) fun c h => gL h) fun c h => gN1 h id fun h => gU2 h (.leaf (.tup [.r (.v (Value.pointer none)), .r (.v (.int .i64 7))]) []) fun h => gL h) (by kernel_rfl)
theorem cc_u8 {k : Nat} {l_ : List (T2).T} {web_ : T6.T} {id_ : Int} (h : (f_u8 k l_ web_ id_).isSome = true) : C_u8 l_ web_ id_ (v_u8 k l_ web_ id_) := ccG (Φ := C_u8 l_ web_ id_) h (of_u8 k l_ web_ id_)
theorem ccA_u8 {k : Nat} {l_ : List (T2).T} {web_ : T6.T} {id_ : Int} (h : (f_u8 k l_ web_ id_).isSome = true) (hb : (v_u8 k l_ web_ id_).isLeft = true) : CA_u8 l_ web_ id_ (vA_u8 k l_ web_ id_) := ccAG (Φ := C_u8 l_ web_ id_) (cc_u8 h) hb
theorem ccB_u8 {k : Nat} {l_ : List (T2).T} {web_ : T6.T} {id_ : Int} (h : (f_u8 k l_ web_ id_).isSome = true) (hb : (v_u8 k l_ web_ id_).isLeft = false) : CB_u8 l_ web_ id_ (vB_u8 k l_ web_ id_) := ccBG (Φ := C_u8 l_ web_ id_) (cc_u8 h) hb
abbrev R_u5 : Type := Int × Int × Int
def res_u5 (r : R_u5) : AV := .tup [.r (.v (.int .i64 r.1)), .r (.v (.int .i64 r.2.1)), .r (.v (.int .i64 r.2.2))]
def bo_u5 (l_ : List (T2).T) (web_ : T6.T) (id_ : Int) (r : R_u5) : List (Nat × Blk) := []
def args_u5 (l_ : List (T2).T) (web_ : T6.T) (id_ : Int) : List AV := [.r (.ro T2 l_), .agg (rvs (enc T6 web_)), .r (.v (.int .i64 id_))]
def bin_u5 (l_ : List (T2).T) (web_ : T6.T) (id_ : Int) : List Blk := []
abbrev C_u5 (l_ : List (T2).T) (web_ : T6.T) (id_ : Int) (r : R_u5) : Prop := CC Try.prog 11 (args_u5 l_ web_ id_) (bin_u5 l_ web_ id_) (res_u5 r) (bo_u5 l_ web_ id_ r)
def f_u5 (k : Nat) (l_ : List (T2).T) (web_ : T6.T) (id_ : Int) : Option R_u5 :=
  bif (Sum.isLeft (v_u8 k l_ web_ id_)) then
  if ((f_u8 k l_ web_ id_).isSome = true) then
  bif (vA_u8 k l_ web_ id_ != (0 : Int)) then
  some ((0, 0, vA_u8 k l_ web_ id_))
  else
  none
  else none
  else
  if ((f_u8 k l_ web_ id_).isSome = true) then
  bif ((vB_u8 k l_ web_ id_).1 != (0 : Int)) then
  some ((0, 0, (vB_u8 k l_ web_ id_).1))
  else
  if ((f_u16 k (vB_u8 k l_ web_ id_).2.1 (vB_u8 k l_ web_ id_).2.2.1 (vB_u8 k l_ web_ id_).2.2.2.1 (vB_u8 k l_ web_ id_).2.2.2.2 id_).isSome = true) then
  some (((v_u16 k (vB_u8 k l_ web_ id_).2.1 (vB_u8 k l_ web_ id_).2.2.1 (vB_u8 k l_ web_ id_).2.2.2.1 (vB_u8 k l_ web_ id_).2.2.2.2 id_).1, (v_u16 k (vB_u8 k l_ web_ id_).2.1 (vB_u8 k l_ web_ id_).2.2.1 (vB_u8 k l_ web_ id_).2.2.2.1 (vB_u8 k l_ web_ id_).2.2.2.2 id_).2, 0))
  else none
  else none
def v_u5 (k : Nat) (l_ : List (T2).T) (web_ : T6.T) (id_ : Int) : R_u5 := (f_u5 k l_ web_ id_).getD (0, 0, 0)
def ke_u5 (k : Nat) : Ke := (11, fun xs => match xs with
  | [_, _, _] => some [false, false, false]
  | _ => none, fun xs bs => match xs, bs with
  | [.r (.ro tl__ ql_), .agg qweb_, .r (.v (.int .i64 id_))], [] => (castL tl__ T2 ql_).bind fun l_ => (decS [] T6 qweb_).bind fun web_ => some (.one (res_u5 (v_u5 k l_ web_ id_), bo_u5 l_ web_ id_ (v_u5 k l_ web_ id_)))
  | _, _ => none)
theorem of_u5 (k : Nat) (l_ : List (T2).T) (web_ : T6.T) (id_ : Int) (r : R_u5) (h : f_u5 k l_ web_ id_ = some r) : C_u5 l_ web_ id_ r := by
  refine CC.of (fn := Try.f11) (by kernel_rfl) (by kernel_rfl) (by kernel_rfl) (by kernel_rfl) ?_
  unfold f_u5 at h
  exact go (mkK [ke_u16 k, ke_u8 k]) [] [] [.autoB [6, 7, 8] true []] (gT h (fun c h => gN1 h (fun q => ccA_u8 q (by assumption)) fun h => gT h (fun c h => gL h) fun c h => gZ h (.stuck 2002)) fun c h => gN1 h (fun q => ccB_u8 q (by assumption)) fun h => gT h (fun c h => gL h) fun c h => gN1 h (fun q => cc_u16 q) fun h => gL h) (by kernel_rfl)
theorem cc_u5 {k : Nat} {l_ : List (T2).T} {web_ : T6.T} {id_ : Int} (h : (f_u5 k l_ web_ id_).isSome = true) : C_u5 l_ web_ id_ (v_u5 k l_ web_ id_) := ccG (Φ := C_u5 l_ web_ id_) h (of_u5 k l_ web_ id_)
end
end Go.AM
namespace Go.AM
open Go Go.Proofs
noncomputable section
end
end Go.AM
namespace Go.AM
open Go Go.Proofs
noncomputable section
end
end Go.AM
namespace Go.AM
open Go Go.Proofs
noncomputable section
end
end Go.AM
namespace Go.AM
open Go Go.Proofs
noncomputable section
end
end Go.AM
namespace Go.AM
open Go Go.Proofs
noncomputable section
end
end Go.AM
namespace Go.AM
open Go Go.Proofs
noncomputable section
end
end Go.AM
namespace Go.AM
open Go Go.Proofs
noncomputable section
end
end Go.AM
namespace Go.AM
open Go Go.Proofs
noncomputable section
end
end Go.AM
namespace Go.AM
open Go Go.Proofs
noncomputable section
end
/-- the error of a number in a register -/
def errS (l : List Ro) (W L id : Int) : Int := if checkS l W L ≠ 0 then checkS l W L else if id ≠ 0 ∧ look l id = none then 7 else 0
structure Kno (l : List Ro) (W L id : Int) : Prop where
  reg : Reg l W L
  kn : id = 0 ∨ ∃ q, look l id = some q
theorem errS_zero {l : List Ro} {W L id : Int} : errS l W L id = 0 ↔ Kno l W L id := by
  unfold errS
  constructor
  · intro h
    by_cases h1 : checkS l W L = 0
    · rw [if_neg (fun h : checkS l W L ≠ 0 => h h1)] at h
      refine ⟨checkS_zero.1 h1, ?_⟩
      by_cases h2 : id = 0
      · exact .inl h2
      · right
        cases e : look l id with
        | none => rw [if_pos ⟨h2, e⟩] at h; omega
        | some q => exact ⟨q, rfl⟩
    · rw [if_pos h1] at h; exact absurd h h1
  · rintro ⟨h1, h2⟩
    rw [if_neg (fun h : checkS l W L ≠ 0 => h (checkS_zero.2 h1)), if_neg (fun h : id ≠ 0 ∧ look l id = none => by
      rcases h2 with h2 | ⟨q, h2⟩
      · exact h.1 h2
      · rw [h2] at h; cases h.2)]

theorem fam_find (k : Nat) (hk : 300000 ≤ k) (l : List Ro) (web : Int × Int) (id : Int) : (errS l web.1 web.2 id ≠ 0 → f_u8 k l web id = some (.inl (errS l web.1 web.2 id))) ∧ (errS l web.1 web.2 id = 0 → ∃ M, RegOk M l ∧ Wl l ∧ f_u8 k l web id = some (.inr (0, web.1, web.2, l, M))) := by
  obtain ⟨h1, h2⟩ := fam_open k hk l web
  by_cases h : checkS l web.1 web.2 = 0
  · obtain ⟨M, m1, m2, e⟩ := h2 h
    have hX : f_u8 k l web id = bif ((0 : Int) == 0 && id != 0) then (if (((0 : Int) == 0 && id != 0) = true) ∧ ((f_u14 k web.1 web.2 l M id).isSome = true) then (bif (true && !v_u14 k web.1 web.2 l M id) then some (.inl 7) else some (.inr (0, web.1, web.2, l, M))) else none) else (if (((0 : Int) == 0 && id != 0) = false) then some (.inr (0, web.1, web.2, l, M)) else none) := by
      unfold f_u8 vA_u9 vB_u9 v_u9
      rw [e]; rfl
    have hkn : v_u14 k web.1 web.2 l M id = (mget I id M).isSome := by unfold v_u14 f_u14; rfl
    rw [hX, hkn]
    unfold errS
    rw [if_neg (fun h' : checkS l web.1 web.2 ≠ 0 => h' h)]
    by_cases h0 : id = 0
    · rw [show ((0 : Int) == 0 && id != 0) = false by simp [h0], cond_false, if_pos rfl, if_neg (fun h' : id ≠ 0 ∧ look l id = none => h'.1 h0)]
      exact ⟨fun h => absurd rfl h, fun _ => ⟨M, m1, m2, rfl⟩⟩
    · rw [show ((0 : Int) == 0 && id != 0) = true by simp [h0], cond_true, if_pos (show true = true ∧ (f_u14 k web.1 web.2 l M id).isSome = true from ⟨rfl, rfl⟩)]
      cases e : look l id with
      | none =>
        rw [(m1 id).none e, if_pos (show id ≠ 0 ∧ (none : Option Ro) = none from ⟨h0, rfl⟩)]
        exact ⟨fun _ => rfl, fun h => absurd h (by decide)⟩
      | some q =>
        obtain ⟨i, e1, e2, e3⟩ := (m1 id).some e
        rw [e1, if_neg (fun h : id ≠ 0 ∧ some q = none => nomatch h.2)]
        exact ⟨fun h => absurd rfl h, fun _ => ⟨M, m1, m2, rfl⟩⟩
  · have hX : f_u8 k l web id = bif (checkS l web.1 web.2 == 0 && id != 0) then none else if (checkS l web.1 web.2 == 0 && id != 0) = false then some (.inl (checkS l web.1 web.2)) else none := by
      unfold f_u8 vA_u9 vB_u9 v_u9
      rw [h1 h]; rfl
    rw [hX]
    unfold errS
    rw [if_pos h, show (checkS l web.1 web.2 == 0) = false from beq_false_of_ne h, Bool.false_and, cond_false, if_pos rfl]
    exact ⟨fun _ => rfl, fun h' => absurd h' h⟩

/-! ### sizes -/
def sizeE (l : List Ro) (W L id : Int) : Int × Int × Int := if errS l W L id ≠ 0 then (0, 0, errS l W L id) else ((sizeS l W L id).1, (sizeS l W L id).2, 0)
theorem fam_size (k : Nat) (hk : 2100 ≤ k) (W L : Int) (l : List Ro) (M : List (Int × Int)) (id : Int) (hp : Wl l) (hM : RegOk M l) (h : id = 0 ∨ ∃ q, look l id = some q) : f_u16 k W L l M id = some (sizeS l W L id) ∧ v_u16 k W L l M id = sizeS l W L id := by
  have a := fam_size_s k hk W L l [] M id hp hM h
  have b := fam_size_v k hk W L l [] M id hp hM h
  rw [List.append_nil] at a b
  exact ⟨a, b⟩
theorem fam_Size_s (k : Nat) (hk : 300000 ≤ k) (l : List Ro) (web : Int × Int) (id : Int) : f_u5 k l web id = some (sizeE l web.1 web.2 id) := by
  obtain ⟨h1, h2⟩ := fam_find k hk l web id
  unfold f_u5 vA_u8 vB_u8 v_u8 sizeE
  by_cases h : errS l web.1 web.2 id = 0
  · obtain ⟨M, m1, m2, e⟩ := h2 h
    obtain ⟨a, b⟩ := fam_size k (by omega) web.1 web.2 l M id m2 m1 (errS_zero.1 h).kn
    rw [e, if_neg (fun h' : errS l web.1 web.2 id ≠ 0 => h' h)]
    show (if (f_u16 k web.1 web.2 l M id).isSome = true then some ((v_u16 k web.1 web.2 l M id).1, (v_u16 k web.1 web.2 l M id).2, (0 : Int)) else none) = _
    rw [a, b]; rfl
  · rw [h1 h, if_pos h]
    show (bif (errS l web.1 web.2 id != 0) then _ else _) = _
    rw [bne_iff_ne.2 h]; rfl
theorem fam_Size_v (k : Nat) (hk : 300000 ≤ k) (l : List Ro) (web : Int × Int) (id : Int) : v_u5 k l web id = sizeE l web.1 web.2 id := by
  unfold v_u5; rw [fam_Size_s k hk l web id]; rfl

theorem Reg.wl {l : List Ro} {W L : Int} (h : Reg l W L) : Wl l := fun r hr => by
  have ro := h.ok.ro r hr
  obtain ⟨c1, c2, c3, c4, _⟩ := ro.cut
  have := h.small 512 r.2.1 (h.anc ro.parent)
  exact ⟨c1, c2, by omega, c4⟩

/-- the size of a roll that is known -/
theorem size_some {l : List Ro} {W L id : Int} {r : Ro} (h0 : id ≠ 0) (e : look l id = some r) : sizeS l W L id = (r.2.2.2.1, lenS r.2.2.2.2.2) := by
  unfold sizeS; rw [if_neg h0, e]

end Go.AM
namespace Go.AM
open Go Go.Proofs
noncomputable section
abbrev R_u12 : Type := T1.T × Int
def res_u12 (r : R_u12) : AV := .tup [.agg (rvs (enc T1 r.1)), .r (.v (.int .i64 r.2))]
def bo_u12 (g_0 : Int) (g_1 : Int) (g_2 : List (T2).T) (g_3 : List ((I).T × (I).T)) (id_ : Int) (r : R_u12) : List (Nat × Blk) := [(0, .var 114 [.r (.v (.int .i64 g_0)), .r (.v (.int .i64 g_1)), .r (.ro T2 g_2), .own 1 0]), (0, .map false I I g_3)]
def args_u12 (g_0 : Int) (g_1 : Int) (g_2 : List (T2).T) (g_3 : List ((I).T × (I).T)) (id_ : Int) : List AV := [.ptr 0 0 0, .r (.v (.int .i64 id_))]
def bin_u12 (g_0 : Int) (g_1 : Int) (g_2 : List (T2).T) (g_3 : List ((I).T × (I).T)) (id_ : Int) : List Blk := [.var 114 [.r (.v (.int .i64 g_0)), .r (.v (.int .i64 g_1)), .r (.ro T2 g_2), .own 1 0], .map false I I g_3]
abbrev C_u12 (g_0 : Int) (g_1 : Int) (g_2 : List (T2).T) (g_3 : List ((I).T × (I).T)) (id_ : Int) (r : R_u12) : Prop := CC Try.prog 44 (args_u12 g_0 g_1 g_2 g_3 id_) (bin_u12 g_0 g_1 g_2 g_3 id_) (res_u12 r) (bo_u12 g_0 g_1 g_2 g_3 id_ r)
def w_u12 (g : Int → Int → List (T2).T → (List ((I).T × (I).T)) → Int → Option R_u12) (g_0 : Int) (g_1 : Int) (g_2 : List (T2).T) (g_3 : List ((I).T × (I).T)) (id_ : Int) : R_u12 := (g g_0 g_1 g_2 g_3 id_).getD ((T1).dflt, 0)
def f_u12 : Nat → Int → Int → List (T2).T → (List ((I).T × (I).T)) → Int → Option R_u12
  | 0, _, _, _, _, _ => none
  | k + 1, g_0, g_1, g_2, g_3, id_ =>
  bif (id_ == (0 : Int)) then
  bif (decide (g_1 > (0 : Int))) then
  some (((0, (g_0, (false, [(0, g_1, false)]))), 0))
  else
  some (((0, (g_0, (false, []))), 0))
  else
  if ((0 : Int) ≤ (mget I id_ g_3).getD (0 : Int)) ∧ ((mget I id_ g_3).getD (0 : Int) < (↑g_2.length : Int)) then
  if ((f_u12 k g_0 g_1 g_2 g_3 (g_2.getD (Int.toNat ((mget I id_ g_3).getD 0)) T2.dflt).2.1).isSome = true) then
  bif ((w_u12 (f_u12 k) g_0 g_1 g_2 g_3 (g_2.getD (Int.toNat ((mget I id_ g_3).getD (0 : Int))) T2.dflt).2.1).2 != (0 : Int)) then
  some (((0, (0, (false, []))), (w_u12 (f_u12 k) g_0 g_1 g_2 g_3 (g_2.getD (Int.toNat ((mget I id_ g_3).getD 0)) T2.dflt).2.1).2))
  else
  if ((f_u29 k (g_2.getD (Int.toNat ((mget I id_ g_3).getD 0)) T2.dflt).2.2.2.2.2 (w_u12 (f_u12 k) g_0 g_1 g_2 g_3 (g_2.getD (Int.toNat ((mget I id_ g_3).getD 0)) T2.dflt).2.1).1.2.2.2).isSome = true) then
  bif ((v_u29 k (g_2.getD (Int.toNat ((mget I id_ g_3).getD (0 : Int))) T2.dflt).2.2.2.2.2 (w_u12 (f_u12 k) g_0 g_1 g_2 g_3 (g_2.getD (Int.toNat ((mget I id_ g_3).getD (0 : Int))) T2.dflt).2.1).1.2.2.2).2 != (0 : Int)) then
  some (((0, (0, (false, []))), (v_u29 k (g_2.getD (Int.toNat ((mget I id_ g_3).getD 0)) T2.dflt).2.2.2.2.2 (w_u12 (f_u12 k) g_0 g_1 g_2 g_3 (g_2.getD (Int.toNat ((mget I id_ g_3).getD 0)) T2.dflt).2.1).1.2.2.2).2))
  else
  bif (w_u12 (f_u12 k) g_0 g_1 g_2 g_3 (g_2.getD (Int.toNat ((mget I id_ g_3).getD (0 : Int))) T2.dflt).2.1).1.2.2.1 then
  some (((IntKind.i64.wrap (IntKind.i64.wrap (IntKind.i64.wrap ((w_u12 (f_u12 k) g_0 g_1 g_2 g_3 (g_2.getD (Int.toNat ((mget I id_ g_3).getD 0)) T2.dflt).2.1).1.1 + (w_u12 (f_u12 k) g_0 g_1 g_2 g_3 (g_2.getD (Int.toNat ((mget I id_ g_3).getD 0)) T2.dflt).2.1).1.2.1) - (g_2.getD (Int.toNat ((mget I id_ g_3).getD 0)) T2.dflt).2.2.1) - (g_2.getD (Int.toNat ((mget I id_ g_3).getD 0)) T2.dflt).2.2.2.1), ((g_2.getD (Int.toNat ((mget I id_ g_3).getD 0)) T2.dflt).2.2.2.1, (! (w_u12 (f_u12 k) g_0 g_1 g_2 g_3 (g_2.getD (Int.toNat ((mget I id_ g_3).getD 0)) T2.dflt).2.1).1.2.2.1 == (g_2.getD (Int.toNat ((mget I id_ g_3).getD 0)) T2.dflt).2.2.2.2.1, (v_u29 k (g_2.getD (Int.toNat ((mget I id_ g_3).getD 0)) T2.dflt).2.2.2.2.2 (w_u12 (f_u12 k) g_0 g_1 g_2 g_3 (g_2.getD (Int.toNat ((mget I id_ g_3).getD 0)) T2.dflt).2.1).1.2.2.2).1))), 0))
  else
  some (((IntKind.i64.wrap ((w_u12 (f_u12 k) g_0 g_1 g_2 g_3 (g_2.getD (Int.toNat ((mget I id_ g_3).getD 0)) T2.dflt).2.1).1.1 + (g_2.getD (Int.toNat ((mget I id_ g_3).getD 0)) T2.dflt).2.2.1), ((g_2.getD (Int.toNat ((mget I id_ g_3).getD 0)) T2.dflt).2.2.2.1, (! (w_u12 (f_u12 k) g_0 g_1 g_2 g_3 (g_2.getD (Int.toNat ((mget I id_ g_3).getD 0)) T2.dflt).2.1).1.2.2.1 == (g_2.getD (Int.toNat ((mget I id_ g_3).getD 0)) T2.dflt).2.2.2.2.1, (v_u29 k (g_2.getD (Int.toNat ((mget I id_ g_3).getD 0)) T2.dflt).2.2.2.2.2 (w_u12 (f_u12 k) g_0 g_1 g_2 g_3 (g_2.getD (Int.toNat ((mget I id_ g_3).getD 0)) T2.dflt).2.1).1.2.2.2).1))), 0))
  else none
  else none
  else none
def v_u12 (k : Nat) (g_0 : Int) (g_1 : Int) (g_2 : List (T2).T) (g_3 : List ((I).T × (I).T)) (id_ : Int) : R_u12 := (f_u12 k g_0 g_1 g_2 g_3 id_).getD ((T1).dflt, 0)
def ke_u12 (k : Nat) : Ke := (44, fun xs => match xs with
  | [.ptr _ _ _, _] => some [true, false]
  | _ => none, fun xs bs => match xs, bs with
  | [.ptr 0 0 0, .r (.v (.int .i64 id_))], [.var 114 [.r (.v (.int .i64 g_0)), .r (.v (.int .i64 g_1)), .r (.ro tg_2_ qg_2), .own 1 0], .map false kg_3_ tg_3_ qg_3] => (castL tg_2_ T2 qg_2).bind fun g_2 => (castM kg_3_ tg_3_ I I qg_3).bind fun g_3 => some (.one (res_u12 (v_u12 k g_0 g_1 g_2 g_3 id_), bo_u12 g_0 g_1 g_2 g_3 id_ (v_u12 k g_0 g_1 g_2 g_3 id_)))
  | _, _ => none)
theorem of_u12 : ∀ (k : Nat) (g_0 : Int) (g_1 : Int) (g_2 : List (T2).T) (g_3 : List ((I).T × (I).T)) (id_ : Int) (r : R_u12), f_u12 k g_0 g_1 g_2 g_3 id_ = some r → C_u12 g_0 g_1 g_2 g_3 id_ r
  | 0, g_0, g_1, g_2, g_3, id_, r, h => by simp [f_u12] at h
  | k + 1, g_0, g_1, g_2, g_3, id_, r, h => by
    have ih : ∀ {g_0 : Int} {g_1 : Int} {g_2 : List (T2).T} {g_3 : List ((I).T × (I).T)} {id_ : Int}, (f_u12 k g_0 g_1 g_2 g_3 id_).isSome = true → C_u12 g_0 g_1 g_2 g_3 id_ (v_u12 k g_0 g_1 g_2 g_3 id_) := fun {g_0} {g_1} {g_2} {g_3} {id_} h => ccG (Φ := C_u12 g_0 g_1 g_2 g_3 id_) h (of_u12 k g_0 g_1 g_2 g_3 id_)
    refine CC.of (fn := Try.f44) (by kernel_rfl) (by kernel_rfl) (by kernel_rfl) (by kernel_rfl) ?_
    rw [f_u12] at h
    exact go (mkK [ke_u29 k, ke_u12 k]) [] [] [.frz 4 true T1, .autoB [4, 5] true []] (gT h (fun c h => gT h (fun c h => gL h) fun c h => gL h) fun c h => gN2 h fun h => gN1 h (fun q => ih q) fun h => gT h (fun c h => gL h) fun c h => gN1 h (fun q => cc_u29 q) fun h => gT h (fun c h => gL h) fun c h => gT h (fun c h => gL h) fun c h => gL h) (by kernel_rfl)
theorem cc_u12 {k : Nat} {g_0 : Int} {g_1 : Int} {g_2 : List (T2).T} {g_3 : List ((I).T × (I).T)} {id_ : Int} (h : (f_u12 k g_0 g_1 g_2 g_3 id_).isSome = true) : C_u12 g_0 g_1 g_2 g_3 id_ (v_u12 k g_0 g_1 g_2 g_3 id_) := ccG (Φ := C_u12 g_0 g_1 g_2 g_3 id_) h (of_u12 k g_0 g_1 g_2 g_3 id_)
abbrev R_u4 : Type := T1.T × Int
def res_u4 (r : R_u4) : AV := .tup [.agg (rvs (enc T1 r.1)), .r (.v (.int .i64 r.2))]
def bo_u4 (l_ : List (T2).T) (web_ : T6.T) (id_ : Int) (r : R_u4) : List (Nat × Blk) := []
def args_u4 (l_ : List (T2).T) (web_ : T6.T) (id_ : Int) : List AV := [.r (.ro T2 l_), .agg (rvs (enc T6 web_)), .r (.v (.int .i64 id_))]
def bin_u4 (l_ : List (T2).T) (web_ : T6.T) (id_ : Int) : List Blk := []
abbrev C_u4 (l_ : List (T2).T) (web_ : T6.T) (id_ : Int) (r : R_u4) : Prop := CC Try.prog 26 (args_u4 l_ web_ id_) (bin_u4 l_ web_ id_) (res_u4 r) (bo_u4 l_ web_ id_ r)
def f_u4 (k : Nat) (l_ : List (T2).T) (web_ : T6.T) (id_ : Int) : Option R_u4 :=
  bif (Sum.isLeft (v_u8 k l_ web_ id_)) then
  if ((f_u8 k l_ web_ id_).isSome = true) then
  bif (vA_u8 k l_ web_ id_ != (0 : Int)) then
  some (((0, (0, (false, []))), vA_u8 k l_ web_ id_))
  else
  none
  else none
  else
  if ((f_u8 k l_ web_ id_).isSome = true) then
  bif ((vB_u8 k l_ web_ id_).1 != (0 : Int)) then
  some (((0, (0, (false, []))), (vB_u8 k l_ web_ id_).1))
  else
  if ((f_u12 k (vB_u8 k l_ web_ id_).2.1 (vB_u8 k l_ web_ id_).2.2.1 (vB_u8 k l_ web_ id_).2.2.2.1 (vB_u8 k l_ web_ id_).2.2.2.2 id_).isSome = true) then
  some (((v_u12 k (vB_u8 k l_ web_ id_).2.1 (vB_u8 k l_ web_ id_).2.2.1 (vB_u8 k l_ web_ id_).2.2.2.1 (vB_u8 k l_ web_ id_).2.2.2.2 id_).1, (v_u12 k (vB_u8 k l_ web_ id_).2.1 (vB_u8 k l_ web_ id_).2.2.1 (vB_u8 k l_ web_ id_).2.2.2.1 (vB_u8 k l_ web_ id_).2.2.2.2 id_).2))
  else none
  else none
def v_u4 (k : Nat) (l_ : List (T2).T) (web_ : T6.T) (id_ : Int) : R_u4 := (f_u4 k l_ web_ id_).getD ((T1).dflt, 0)
def ke_u4 (k : Nat) : Ke := (26, fun xs => match xs with
  | [_, _, _] => some [false, false, false]
  | _ => none, fun xs bs => match xs, bs with
  | [.r (.ro tl__ ql_), .agg qweb_, .r (.v (.int .i64 id_))], [] => (castL tl__ T2 ql_).bind fun l_ => (decS [] T6 qweb_).bind fun web_ => some (.one (res_u4 (v_u4 k l_ web_ id_), bo_u4 l_ web_ id_ (v_u4 k l_ web_ id_)))
  | _, _ => none)
theorem of_u4 (k : Nat) (l_ : List (T2).T) (web_ : T6.T) (id_ : Int) (r : R_u4) (h : f_u4 k l_ web_ id_ = some r) : C_u4 l_ web_ id_ r := by
  refine CC.of (fn := Try.f26) (by kernel_rfl) (by kernel_rfl) (by kernel_rfl) (by kernel_rfl) ?_
  unfold f_u4 at h
  exact go (mkK [ke_u8 k, ke_u12 k]) [] [] [.frz 6 true T1, .autoB [6, 7] true []] (gT h (fun c h => gN1 h (fun q => ccA_u8 q (by assumption)) fun h => gT h (fun c h => gL h) fun c h => gZ h (.stuck 2002)) fun c h => gN1 h (fun q => ccB_u8 q (by assumption)) fun h => gT h (fun c h => gL h) fun c h => gN1 h (fun q => cc_u12 q) fun h => gL h) (by kernel_rfl)
theorem cc_u4 {k : Nat} {l_ : List (T2).T} {web_ : T6.T} {id_ : Int} (h : (f_u4 k l_ web_ id_).isSome = true) : C_u4 l_ web_ id_ (v_u4 k l_ web_ id_) := ccG (Φ := C_u4 l_ web_ id_) h (of_u4 k l_ web_ id_)

end
/-! ### cuts from the web -/
def baseS (W L : Int) : Ch := (0, W, false, if L > 0 then [(0, L, false)] else [])
/-- a roll's cut from the web, from that of its parent -/
def cutJ (r : Ro) (o : Ch × Int) : Ch × Int :=
  if o.2 ≠ 0 then ((0, 0, false, []), o.2)
  else if (comp r.2.2.2.2.2 o.1.2.2.2).2 ≠ 0 then ((0, 0, false, []), (comp r.2.2.2.2.2 o.1.2.2.2).2)
  else (((if o.1.2.2.1 = true then IntKind.i64.wrap (IntKind.i64.wrap (IntKind.i64.wrap (o.1.1 + o.1.2.1) - r.2.2.1) - r.2.2.2.1) else IntKind.i64.wrap (o.1.1 + r.2.2.1)),
    r.2.2.2.1, !(o.1.2.2.1 == r.2.2.2.2.1), (comp r.2.2.2.2.2 o.1.2.2.2).1), 0)
def cutS (l : List Ro) (W L : Int) : Nat → Int → Ch × Int
  | 0, _ => (baseS W L, 0)
  | n + 1, id => if id = 0 then (baseS W L, 0) else match look l id with
    | none => (baseS W L, 0)
    | some r => cutJ r (cutS l W L n r.2.1)
theorem Anc.cases {l : List Ro} {n : Nat} {id : Int} (h : Anc l n id) (h0 : id ≠ 0) : ∃ m r, n = m + 1 ∧ look l id = some r ∧ Anc l m r.2.1 := by
  cases h with
  | root => exact absurd rfl h0
  | step m _ r _ e a => exact ⟨m, r, rfl, e, a⟩

theorem fam_cut (W L : Int) (l : List Ro) (M : List (Int × Int)) (hM : RegOk M l) : ∀ (n : Nat) (id : Int) (k : Nat), Anc l n id → n + 1000 < k → f_u12 k W L l M id = some (cutS l W L n id) := by
  have hbase : ∀ k, f_u12 (k + 1) W L l M 0 = some (baseS W L, 0) := fun k => by
    rw [f_u12]
    show (bif decide (L > 0) then some (((0 : Int), (W, (false, [((0 : Int), L, false)]))), (0 : Int)) else some (((0 : Int), (W, (false, []))), (0 : Int))) = _
    unfold baseS
    by_cases h : L > 0
    · rw [decide_eq_true h, if_pos h]; rfl
    · rw [decide_eq_false h, if_neg h]; rfl
  intro n
  induction n with
  | zero =>
    intro id k ha hk
    obtain ⟨k, rfl⟩ : ∃ q, k = q + 1 := ⟨k - 1, by omega⟩
    by_cases h0 : id = 0
    · rw [h0, hbase]; rfl
    · obtain ⟨m, _, e, _⟩ := ha.cases h0
      cases e
  | succ n ih =>
    intro id k ha hk
    obtain ⟨k, rfl⟩ : ∃ q, k = q + 1 := ⟨k - 1, by omega⟩
    by_cases h0 : id = 0
    · rw [h0, hbase]
      unfold cutS
      rw [if_pos rfl]
    · obtain ⟨m, r, em, e, a⟩ := ha.cases h0
      cases em
      have hf := ih r.2.1 k a (by omega)
      obtain ⟨x, e1, e2, e3⟩ := (hM id).some e
      have hx : (x : Int) < (l.length : Int) := by omega
      rw [f_u12]
      unfold cutS w_u12
      rw [if_neg h0, beq_false_of_ne h0, cond_false, e, e1, Option.getD_some, if_pos ⟨by omega, hx⟩, Int.toNat_natCast, e3, hf, Option.isSome_some, if_pos rfl, Option.getD_some, iso_Compose_s k (by omega), iso_Compose_v k (by omega)]
      show _ = some (cutJ r (cutS l W L n r.2.1))
      generalize cutS l W L n r.2.1 = o
      unfold cutJ
      by_cases h1 : o.2 = 0
      · have g1 : ¬ (o.2 ≠ 0) := fun h => h h1
        rw [show (o.2 != 0) = false by simp [h1], cond_false, Option.isSome_some, if_pos rfl]
        rw [if_neg g1]
        generalize comp r.2.2.2.2.2 o.1.2.2.2 = c
        by_cases h2 : c.2 = 0
        · have g2 : ¬ (c.2 ≠ 0) := fun h => h h2
          rw [show (c.2 != 0) = false by simp [h2], cond_false, if_neg g2]
          cases h3 : o.1.2.2.1
          · rfl
          · rfl
        · rw [bne_iff_ne.2 h2, if_pos h2]; rfl
      · rw [bne_iff_ne.2 h1]
        rw [if_pos h1]; rfl
def cutFull (l : List Ro) (W L id : Int) : Ch × Int := if errS l W L id ≠ 0 then ((0, 0, false, []), errS l W L id) else cutS l W L 512 id
theorem fam_Cut_s (k : Nat) (hk : 300000 ≤ k) (l : List Ro) (web : Int × Int) (id : Int) : f_u4 k l web id = some (cutFull l web.1 web.2 id) := by
  obtain ⟨h1, h2⟩ := fam_find k hk l web id
  unfold f_u4 vA_u8 vB_u8 v_u8 cutFull
  by_cases h : errS l web.1 web.2 id = 0
  · obtain ⟨M, m1, m2, e⟩ := h2 h
    obtain ⟨reg, kn⟩ := errS_zero.1 h
    have hi : ¬ (errS l web.1 web.2 id ≠ 0) := fun h' => h' h
    have hc := fam_cut web.1 web.2 l M m1 512 id k (reg.anc kn) (by omega)
    rw [e, if_neg hi]
    show (if (f_u12 k web.1 web.2 l M id).isSome = true then some ((v_u12 k web.1 web.2 l M id).1, (v_u12 k web.1 web.2 l M id).2) else none) = _
    unfold v_u12
    rw [hc]; rfl
  · rw [h1 h, if_pos h]
    show (bif (errS l web.1 web.2 id != 0) then _ else _) = _
    rw [bne_iff_ne.2 h]; rfl
theorem fam_Cut_v (k : Nat) (hk : 300000 ≤ k) (l : List Ro) (web : Int × Int) (id : Int) : v_u4 k l web id = cutFull l web.1 web.2 id := by
  unfold v_u4; rw [fam_Cut_s k hk l web id]; rfl

end Go.AM
namespace Go.AM
open Go

structure PtB (p : Pt) : Prop where
  a0 : 0 ≤ p.2.1
  a1 : p.2.1 ≤ 12000
  b0 : 0 ≤ p.2.2
  b1 : p.2.2 ≤ 17179869184
theorem single_one (r : Rn) (h : good r) (hc : chk [r] = 0) (hn : Nr (-1) [spn r]) : singleS [r] = true := by
  have e : nf ([r].map spn) = [spn r] := nf_self (spn_in (m := [r]) ⟨h, trivial⟩) hn
  unfold singleS
  rw [e, hc]
  have := h.lohi
  show (decide ((0 : Int) = 0) && ((hi r + 1 - lo r + 0) == r.2.1 + 0)) = true
  rw [beq_iff_eq.2 (by omega)]; rfl
/-! ### the cut from the web says where a point lies -/
def acrS (c : Ch) (x : Int) : Int := if c.2.2.1 = true then c.1 + c.2.1 - 1 - x else c.1 + x
theorem webS_root {l : List Ro} {p : Pt} (h : p.1 = 0) (n : Nat) : webS l n p = p := by
  cases n with
  | zero => rfl
  | succ n => unfold webS; rw [if_pos h]
theorem webS_step {l : List Ro} {p : Pt} {r : Ro} (h0 : p.1 ≠ 0) (e : look l p.1 = some r) (n : Nat) : webS l (n + 1) p = webS l n (placeS r p) := by
  rw [webS, if_neg h0, e]
structure CutIn (l : List Ro) (W L id : Int) (c : Ch) (n : Nat) : Prop where
  left : 0 ≤ c.1
  right : c.1 + c.2.1 ≤ W
  width : c.2.1 = (sizeS l W L id).1
  chk : Chk c.2.2.2
  len : lenS c.2.2.2 = (sizeS l W L id).2
  web : ∀ p : Pt, p.1 = id → On l W L p → webS l n p = (0, acrS c p.2.1, imgAt c.2.2.2 p.2.2)
theorem base_in {l : List Ro} {W L : Int} (reg : Reg l W L) (n : Nat) : CutIn l W L 0 (baseS W L) n := by
  have hw := reg.w
  have hl := reg.len
  have hs : sizeS l W L 0 = (W, L) := by unfold sizeS; rw [if_pos rfl]
  have hb : (baseS W L) = (0, W, false, if L > 0 then [(0, L, false)] else []) := rfl
  refine ⟨Int.le_refl _, by rw [hb]; show (0 : Int) + W ≤ W; omega, by rw [hs]; rfl, ?_, ?_, ?_⟩
  · rw [hb]
    show Chk (if L > 0 then [(0, L, false)] else [])
    by_cases h : L > 0
    · rw [if_pos h]
      exact ⟨by simp, ⟨⟨by show 1 ≤ L; omega, by show L ≤ _; omega, by show (0 : Int) ≤ 0; omega, by show (0 : Int) < _; omega, fun h => (by cases h), fun _ => by show (0 : Int) + L ≤ _; omega⟩, trivial⟩, by simp only [lenS]; omega⟩
    · rw [if_neg h]
      exact ⟨by simp, trivial, by simp only [lenS]; omega⟩
  · rw [hb, hs]
    show lenS (if L > 0 then [(0, L, false)] else []) = L
    by_cases h : L > 0
    · rw [if_pos h]; simp only [lenS]; omega
    · rw [if_neg h]; simp only [lenS]; omega
  · intro p h0 on
    obtain ⟨a0, a1, b0, b1⟩ := on
    rw [h0, hs] at a1 b1
    have b1 : p.2.2 < L := b1
    rw [webS_root h0, hb]
    show p = (0, acrS (0, W, false, _) p.2.1, imgAt (if L > 0 then [(0, L, false)] else []) p.2.2)
    rw [if_pos (by omega)]
    unfold imgAt acrS img
    rw [if_pos b1, if_neg (fun h => (by cases h)), if_neg (fun h => (by cases h))]
    show p = ((0 : Int), (0 : Int) + p.2.1, (0 : Int) + p.2.2)
    obtain ⟨p1, p2, p3⟩ := p
    have h0 : p1 = 0 := h0
    rw [h0, Int.zero_add, Int.zero_add]
theorem cutS_in {l : List Ro} {W L : Int} (reg : Reg l W L) : ∀ (n : Nat) (id : Int) (c : Ch), Anc l n id → cutS l W L n id = (c, 0) → CutIn l W L id c n := by
  intro n
  have hw := reg.w
  induction n with
  | zero =>
    intro id c ha hc
    by_cases h0 : id = 0
    · cases hc; rw [h0]; exact base_in reg 0
    · obtain ⟨_, _, e, _⟩ := ha.cases h0
      cases e
  | succ n ih =>
    intro id c ha hc
    by_cases h0 : id = 0
    · unfold cutS at hc
      rw [if_pos h0] at hc
      cases hc; rw [h0]; exact base_in reg _
    · obtain ⟨k, r, ek, e, a⟩ := ha.cases h0
      cases ek
      have ro := reg.ok.ro r (look_some e).1
      obtain ⟨c1, c2, c3, c4, c5, c6, c7⟩ := ro.cut
      unfold cutS at hc
      rw [if_neg h0, e] at hc
      have hc : cutJ r (cutS l W L n r.2.1) = (c, 0) := hc
      obtain ⟨oc, oe⟩ : ∃ oc, cutS l W L n r.2.1 = oc := ⟨_, rfl⟩
      rw [oe] at hc
      unfold cutJ at hc
      by_cases h1 : oc.2 = 0
      · rw [if_neg (fun h : oc.2 ≠ 0 => h h1)] at hc
        obtain ⟨i1, i2, i3, i4, i5, i6⟩ := ih r.2.1 oc.1 a (by rw [oe, ← h1])
        obtain ⟨cm, ce⟩ : ∃ cm, comp r.2.2.2.2.2 oc.1.2.2.2 = cm := ⟨_, rfl⟩
        rw [ce] at hc
        by_cases h2 : cm.2 = 0
        · rw [if_neg (fun h : cm.2 ≠ 0 => h h2)] at hc
          obtain ⟨_, _, _, k1, k2, k3⟩ := comp_spec (m := cm.1) (by rw [ce, ← h2])
          have hs := reg.small n r.2.1 a
          rw [wrap_id (i := oc.1.1 + oc.1.2.1) (by omega) (by omega), wrap_id (i := oc.1.1 + oc.1.2.1 - r.2.2.1) (by omega) (by omega), wrap_id (i := oc.1.1 + oc.1.2.1 - r.2.2.1 - r.2.2.2.1) (by omega) (by omega), wrap_id (i := oc.1.1 + r.2.2.1) (by omega) (by omega)] at hc
          have hc1 := congrArg Prod.fst hc
          have hc1 : ((if oc.1.2.2.1 = true then oc.1.1 + oc.1.2.1 - r.2.2.1 - r.2.2.2.1 else oc.1.1 + r.2.2.1), r.2.2.2.1, !(oc.1.2.2.1 == r.2.2.2.2.1), cm.1) = c := hc1
          subst hc1
          have hsz := size_some (W := W) (L := L) h0 e
          refine ⟨?_, ?_, ?_, k1, ?_, ?_⟩
          · show 0 ≤ (if oc.1.2.2.1 = true then _ else _ : Int)
            split <;> omega
          · show (if oc.1.2.2.1 = true then _ else _ : Int) + r.2.2.2.1 ≤ W
            split <;> omega
          · rw [hsz]
          · rw [hsz]; exact k2
          · intro p hp on
            have on2 := on.place (by rw [hp]; exact h0) (by rw [hp]; exact e) ro
            rw [webS_step (by rw [hp]; exact h0) (by rw [hp]; exact e), i6 (placeS r p) rfl on2]
            obtain ⟨a0, a1, b0, b1⟩ := on
            rw [hp, hsz] at a1 b1
            have b1 : p.2.2 < lenS r.2.2.2.2.2 := b1
            have e3 : imgAt oc.1.2.2.2 (placeS r p).2.2 = imgAt cm.1 p.2.2 := (k3 p.2.2 b0 b1).symm
            rw [e3]
            have e4 : acrS oc.1 (placeS r p).2.1 = acrS ((if oc.1.2.2.1 = true then oc.1.1 + oc.1.2.1 - r.2.2.1 - r.2.2.2.1 else oc.1.1 + r.2.2.1), r.2.2.2.1, !(oc.1.2.2.1 == r.2.2.2.2.1), cm.1) p.2.1 := by
              unfold acrS placeS
              cases oc.1.2.2.1 <;> cases r.2.2.2.2.1 <;> simp <;> omega
            rw [e4]
        · rw [if_pos h2] at hc
          exact absurd (congrArg Prod.snd hc) h2
      · rw [if_pos h1] at hc
        exact absurd (congrArg Prod.snd hc) h1
/-! ### how many integers lie in a set -/
def cnt (P : Int → Bool) : Nat → Nat
  | 0 => 0
  | n + 1 => cnt P n + (if P (n : Int) = true then 1 else 0)
theorem cnt_congr {P Q : Int → Bool} : ∀ n : Nat, (∀ x : Int, 0 ≤ x → x < n → P x = Q x) → cnt P n = cnt Q n
  | 0, _ => rfl
  | n + 1, h => by
    unfold cnt
    rw [cnt_congr n (fun x h0 h1 => h x h0 (by omega)), h n (by omega) (by omega)]
theorem cnt_or (P Q : Int → Bool) : ∀ n, cnt (fun x => P x || Q x) n + cnt (fun x => P x && Q x) n = cnt P n + cnt Q n
  | 0 => rfl
  | n + 1 => by
    have := cnt_or P Q n
    unfold cnt
    cases h1 : P (n : Int) <;> cases h2 : Q (n : Int) <;> simp only [Bool.or_true, Bool.or_false, Bool.and_true, Bool.and_false, Bool.false_eq_true, if_true, if_false] <;> omega
theorem cnt_pos {P : Int → Bool} : ∀ {n : Nat} {x : Int}, 0 ≤ x → x < n → P x = true → 0 < cnt P n
  | 0, x, h0, h1, _ => by omega
  | n + 1, x, h0, h1, h => by
    unfold cnt
    by_cases hx : x = n
    · subst hx; rw [if_pos h]; omega
    · have := cnt_pos (P := P) h0 (by omega : x < (n : Int)) h; omega
theorem cnt_false {P : Int → Bool} : ∀ n : Nat, (∀ x : Int, 0 ≤ x → x < n → P x = false) → cnt P n = 0
  | 0, _ => rfl
  | n + 1, h => by
    unfold cnt
    rw [cnt_false n (fun x h0 h1 => h x h0 (by omega)), h n (by omega) (by omega)]
    rfl
theorem cnt_seg (a b : Int) (h0 : 0 ≤ a) (hab : a ≤ b) : ∀ n : Nat, (cnt (fun x => decide (a ≤ x) && decide (x < b)) n : Int) = max 0 (min b n - a)
  | 0 => by unfold cnt; omega
  | n + 1 => by
    have := cnt_seg a b h0 hab n
    unfold cnt
    by_cases h1 : a ≤ (n : Int)
    · by_cases h2 : (n : Int) < b
      · rw [decide_eq_true h1, decide_eq_true h2]
        simp only [Bool.and_self, if_true]
        omega
      · rw [decide_eq_false h2, Bool.and_false, if_neg Bool.false_ne_true]
        omega
    · rw [decide_eq_false h1, Bool.false_and, if_neg Bool.false_ne_true]
      omega
/-- membership in spans, as a test -/
def hasT (l : List Sp) (x : Int) : Bool := l.any fun s => decide (s.1 ≤ x) && decide (x < s.2)
theorem hasT_cons (s : Sp) (l : List Sp) : hasT (s :: l) = fun x => (decide (s.1 ≤ x) && decide (x < s.2)) || hasT l x := by
  funext x; unfold hasT; rw [List.any_cons]
/-- the integers of a normal form -/
theorem tot_cnt {N : Nat} : ∀ (l : List Sp) (m : Int), Nr m l → -1 ≤ m → (∀ s ∈ l, s.2 ≤ N) → tot l = (cnt (hasT l) N : Int)
  | [], m, _, _, _ => by
    rw [cnt_false (P := hasT []) N (fun x _ _ => rfl)]; rfl
  | s :: t, m, h, hm, hb => by
    obtain ⟨h1, h2, h3⟩ := h
    have ih := tot_cnt t s.2 h3 (by omega) (fun q hq => hb q (by simp [hq]))
    have hor := cnt_or (fun x => decide (s.1 ≤ x) && decide (x < s.2)) (hasT t) N
    have hbs := hb s (by simp)
    have hz : cnt (fun x => (decide (s.1 ≤ x) && decide (x < s.2)) && hasT t x) N = 0 := cnt_false N fun x h0 hx => by
      by_cases hc : x < s.2
      · have : hasT t x = false := by
          have : ∀ (t : List Sp) (m : Int), Nr m t → x < m → hasT t x = false := fun t => by
            induction t with
            | nil => intros; rfl
            | cons u v ih =>
              intro m hn hx
              obtain ⟨g1, g2, g3⟩ := hn
              rw [hasT_cons]
              show ((decide (u.1 ≤ x) && decide (x < u.2)) || hasT v x) = false
              rw [decide_eq_false (by omega), ih u.2 g3 (by omega)]; rfl
          exact this t s.2 h3 hc
        show ((decide (s.1 ≤ x) && decide (x < s.2)) && hasT t x) = false
        rw [this, Bool.and_false]
      · show ((decide (s.1 ≤ x) && decide (x < s.2)) && hasT t x) = false
        rw [decide_eq_false hc, Bool.and_false, Bool.false_and]
    have hs := cnt_seg s.1 s.2 (by omega) (by omega) N
    rw [hasT_cons]
    show s.2 - s.1 + tot t = _
    omega
theorem hasT_iff (l : List Sp) (x : Int) : hasT l x = true ↔ has l x := by
  rw [has_iff]
  unfold hasT
  simp only [List.any_eq_true, Bool.and_eq_true, decide_eq_true_eq]
/-- the integers of the images of a map -/
def imT (m : List Rn) (x : Int) : Bool := hasT (m.map spn) x
abbrev NN : Nat := 17179869184
theorem single_cnt {m : List Rn} (h : singleS m = true) : Chk m ∧ (cnt (imT m) NN : Int) = lenS m := by
  unfold singleS at h
  rw [Bool.and_eq_true, decide_eq_true_eq, beq_iff_eq] at h
  have hc := chk_zero.1 h.1
  have hi := spn_in hc.goods
  refine ⟨hc, ?_⟩
  rw [← h.2, tot_cnt (N := NN) (nf (m.map spn)) (-1) (nf_nr hi) (by omega) (fun s hs => ((nf_in hi).mem s hs).2.2)]
  refine congrArg Int.ofNat (cnt_congr NN fun x _ _ => ?_)
  have h1 := nf_has hi x
  have h2 := hasT_iff (nf (m.map spn)) x
  have h3 := hasT_iff (m.map spn) x
  unfold imT
  cases e : hasT (m.map spn) x <;> cases e2 : hasT (nf (m.map spn)) x <;> simp_all
/-! ### areas -/
theorem cnt_mono {P Q : Int → Bool} (n : Nat) (h : ∀ x : Int, 0 ≤ x → x < n → P x = true → Q x = true) : cnt P n ≤ cnt Q n := by
  induction n with
  | zero => exact Nat.le_refl _
  | succ n ih =>
    have := ih fun x h0 h1 => h x h0 (by omega)
    have h2 := h n (by omega) (by omega)
    unfold cnt
    cases h3 : P (n : Int)
    · simp only [Bool.false_eq_true, if_false]; split <;> omega
    · rw [h2 h3]; simp only [if_true]; omega
def covT (c : Ch) (x : Int) : Bool := decide (c.1 ≤ x) && decide (x < c.1 + c.2.1)
def colS : List Ro → Int → Int
  | [], _ => 0
  | r :: t, x => (if covT r.2.2 x = true then lenS r.2.2.2.2.2 else 0) + colS t x
def uniT : List Ro → Int → Int → Bool
  | [], _, _ => false
  | r :: t, x, z => (covT r.2.2 x && imT r.2.2.2.2.2 z) || uniT t x z
theorem imT_iff {m : List Rn} {z : Int} : imT m z = true ↔ ∃ r ∈ m, lo r ≤ z ∧ z ≤ Go.AM.hi r := by
  unfold imT
  rw [hasT_iff, has_iff]
  constructor
  · rintro ⟨s, hs, h0, h1⟩
    obtain ⟨r, hr, rfl⟩ := List.mem_map.1 hs
    exact ⟨r, hr, h0, by have : z < Go.AM.hi r + 1 := h1; omega⟩
  · rintro ⟨r, hr, h0, h1⟩
    exact ⟨spn r, List.mem_map_of_mem hr, h0, by show z < Go.AM.hi r + 1; omega⟩
/-- cuts that are apart share no point -/
theorem apart_of {a b : Ch} {x z : Int} (h : ovlS a b = false) (ha : covT a x = true) (hb : covT b x = true) (ia : imT a.2.2.2 z = true) (ib : imT b.2.2.2 z = true) : False := by
  obtain ⟨r, hr, r0, r1⟩ := imT_iff.1 ia
  obtain ⟨s, hs, s0, s1⟩ := imT_iff.1 ib
  unfold covT at ha hb
  rw [Bool.and_eq_true, decide_eq_true_eq, decide_eq_true_eq] at ha hb
  have hm : meetS a.2.2.2 b.2.2.2 = true := by
    unfold meetS
    rw [List.any_eq_true]
    refine ⟨r, hr, ?_⟩
    rw [List.any_eq_true]
    refine ⟨s, hs, ?_⟩
    rw [decide_eq_true (by omega), decide_eq_true (by omega)]; rfl
  unfold ovlS at h
  rw [hm, decide_eq_true (by omega), decide_eq_true (by omega)] at h
  cases h
theorem col_cnt (x : Int) : ∀ (C : List Ro), (∀ r ∈ C, singleS r.2.2.2.2.2 = true) → C.Pairwise (fun b r => ovlS r.2.2 b.2.2 = false) → (cnt (uniT C x) NN : Int) = colS C x := by
  intro C
  induction C with
  | nil =>
    intro _ _
    rw [cnt_false (P := uniT [] x) NN (fun x _ _ => rfl)]; rfl
  | cons r t ih =>
    intro hs hp
    obtain ⟨h1, h2⟩ := List.pairwise_cons.1 hp
    have ih := ih (fun q hq => hs q (by simp [hq])) h2
    have hsr := (single_cnt (hs r (by simp))).2
    have hor := cnt_or (fun z => covT r.2.2 x && imT r.2.2.2.2.2 z) (uniT t x) NN
    have hz : cnt (fun z => (covT r.2.2 x && imT r.2.2.2.2.2 z) && uniT t x z) NN = 0 := cnt_false NN fun z _ _ => by
      cases hc : covT r.2.2 x
      · rfl
      · cases hi : imT r.2.2.2.2.2 z
        · rfl
        · have : ∀ (t : List Ro), (∀ a' ∈ t, ovlS a'.2.2 r.2.2 = false) → uniT t x z = false := fun t => by
            induction t with
            | nil => intro _; rfl
            | cons u v ih =>
              intro h
              unfold uniT
              rw [ih fun q hq => h q (by simp [hq]), Bool.or_false]
              cases hu : covT u.2.2 x
              · rfl
              · cases hv : imT u.2.2.2.2.2 z
                · rfl
                · exact (apart_of (h u (by simp)) hu hc hv hi).elim
          show (true && uniT t x z) = false
          rw [this t h1]; rfl
    have e : uniT (r :: t) x = fun z => (covT r.2.2 x && imT r.2.2.2.2.2 z) || uniT t x z := rfl
    rw [e, colS]
    cases hc : covT r.2.2 x
    · rw [hc] at hor hz
      have h0 : cnt (fun z => false && imT r.2.2.2.2.2 z) NN = 0 := cnt_false NN fun _ _ _ => rfl
      simp only [Bool.false_eq_true, if_false]
      omega
    · rw [hc] at hor hz
      have h0 : cnt (fun z => true && imT r.2.2.2.2.2 z) NN = cnt (imT r.2.2.2.2.2) NN := cnt_congr NN fun x _ _ => Bool.true_and _
      simp only [if_true]
      omega
theorem col_le {C : List Ro} {n : Int} (x : Int) (h0 : 0 ≤ n) (hn : n ≤ 17179869184) (hs : ∀ r ∈ C, singleS r.2.2.2.2.2 = true) (hp : C.Pairwise (fun b r => ovlS r.2.2 b.2.2 = false)) (hf : ∀ r ∈ C, fitsIn n r.2.2.2.2.2) (hg : ∀ r ∈ C, goods r.2.2.2.2.2) : colS C x ≤ n := by
  rw [← col_cnt x C hs hp]
  have h1 : cnt (uniT C x) NN ≤ cnt (fun z => decide (0 ≤ z) && decide (z < n)) NN := cnt_mono NN fun z z0 z1 hu => by
    have : ∀ (C : List Ro), (∀ r ∈ C, fitsIn n r.2.2.2.2.2) → uniT C x z = true → z < n := fun C => by
      induction C with
      | nil => intro _ h; cases h
      | cons r t ih =>
        intro hf h
        unfold uniT at h
        rw [Bool.or_eq_true] at h
        rcases h with h | h
        · rw [Bool.and_eq_true] at h
          obtain ⟨q, hq, q0, q1⟩ := imT_iff.1 h.2
          have := fits_mem (hf r (by simp)) q hq
          omega
        · exact ih (fun q hq => hf q (by simp [hq])) h
    rw [decide_eq_true z0, decide_eq_true (this C hf hu)]; rfl
  have h2 := cnt_seg 0 n (by omega) h0 NN
  omega
def sumc (f : Int → Int) : Nat → Int
  | 0 => 0
  | n + 1 => sumc f n + f n
theorem sumc_add (f g : Int → Int) : ∀ n, sumc (fun x => f x + g x) n = sumc f n + sumc g n
  | 0 => rfl
  | n + 1 => by
    have := sumc_add f g n
    unfold sumc; omega
theorem sumc_zero : ∀ n, sumc (fun _ => 0) n = 0
  | 0 => rfl
  | n + 1 => by
    have := sumc_zero n
    unfold sumc; omega
theorem sumc_le {f : Int → Int} {m : Int} (h : ∀ x, f x ≤ m) : ∀ n : Nat, sumc f n ≤ n * m
  | 0 => by unfold sumc; simp
  | n + 1 => by
    have := sumc_le h n
    have h2 := h n
    unfold sumc
    rw [show ((n + 1 : Nat) : Int) = (n : Int) + 1 from rfl, Int.add_mul, Int.one_mul]
    omega
theorem sumc_ind (P : Int → Bool) (v : Int) : ∀ n, sumc (fun x => if P x = true then v else 0) n = (cnt P n : Int) * v
  | 0 => by unfold sumc cnt; simp
  | n + 1 => by
    have := sumc_ind P v n
    unfold sumc cnt
    cases h : P (n : Int)
    · simp only [Bool.false_eq_true, if_false]; rw [this]; simp
    · simp only [if_true]
      rw [show ((cnt P n + 1 : Nat) : Int) = (cnt P n : Int) + 1 from rfl, Int.add_mul, Int.one_mul, this]
def areaS : List Ro → Int
  | [] => 0
  | r :: t => r.2.2.2.1 * lenS r.2.2.2.2.2 + areaS t
theorem area_col (w : Nat) : ∀ (C : List Ro), (∀ r ∈ C, 0 ≤ r.2.2.1 ∧ 1 ≤ r.2.2.2.1 ∧ r.2.2.1 + r.2.2.2.1 ≤ w) → sumc (colS C) w = areaS C
  | [], _ => sumc_zero w
  | r :: t, h => by
    have ih := area_col w t fun q hq => h q (by simp [hq])
    obtain ⟨a, b, c⟩ := h r (by simp)
    have e : colS (r :: t) = fun x => (if covT r.2.2 x = true then lenS r.2.2.2.2.2 else 0) + colS t x := rfl
    have h1 := cnt_seg r.2.2.1 (r.2.2.1 + r.2.2.2.1) a (by omega) w
    have h2 : (cnt (covT r.2.2) w : Int) = r.2.2.2.1 := by
      show (cnt (fun x => decide (r.2.2.1 ≤ x) && decide (x < r.2.2.1 + r.2.2.2.1)) w : Int) = _
      omega
    rw [e, sumc_add, sumc_ind, h2, ih]; rfl
/-- the area of cuts that are apart -/
theorem area_le {C : List Ro} {w n : Int} (hw : 0 ≤ w) (h0 : 0 ≤ n) (hn : n ≤ 17179869184) (hc : ∀ r ∈ C, CutOk r.2.2 w n) (hp : C.Pairwise (fun b r => ovlS r.2.2 b.2.2 = false)) : areaS C ≤ w * n := by
  obtain ⟨w, rfl⟩ : ∃ q : Nat, w = q := ⟨w.toNat, by omega⟩
  rw [← area_col w C fun r hr => ⟨(hc r hr).left, (hc r hr).width, (hc r hr).right⟩]
  exact sumc_le (fun x => col_le x h0 hn (fun r hr => (hc r hr).single) hp (fun r hr => (hc r hr).fits) (fun r hr => (hc r hr).chk.goods)) w
theorem Okp.pairs {W L : Int} {l : List Ro} (h : Okp W L l) : l.Pairwise (fun b r => r.2.1 = b.2.1 → ovlS r.2.2 b.2.2 = false) := by
  induction h with
  | nil => exact List.Pairwise.nil
  | snoc p r h f n c ih =>
    refine List.pairwise_append.2 ⟨ih, List.pairwise_singleton _ _, fun b hb q hq e => ?_⟩
    rw [List.mem_singleton] at hq
    subst hq
    unfold clash at c
    rw [List.any_eq_false] at c
    have := c b hb
    rw [beq_iff_eq.2 e, Bool.true_and] at this
    simpa using this
def kids (l : List Ro) (id : Int) : List Ro := l.filter fun r => r.2.1 == id
theorem Reg.area {l : List Ro} {W L id : Int} (reg : Reg l W L) (kn : id = 0 ∨ ∃ q, look l id = some q) : areaS (kids l id) ≤ (sizeS l W L id).1 * (sizeS l W L id).2 := by
  have hs := reg.small 512 id (reg.anc kn)
  refine area_le hs.1 hs.2.2.1 hs.2.2.2 (fun r hr => ?_) ?_
  · obtain ⟨h1, h2⟩ := List.mem_filter.1 hr
    have := (reg.ok.ro r h1).cut
    rw [beq_iff_eq.1 h2] at this
    exact this
  · have h := reg.ok.pairs.sublist (List.filter_sublist (p := fun r => r.2.1 == id))
    refine h.imp_of_mem fun {a b} ha hb q => q ?_
    have h1 := beq_iff_eq.1 (List.mem_filter.1 ha).2
    have h2 := beq_iff_eq.1 (List.mem_filter.1 hb).2
    rw [h1, h2]
end Go.AM
namespace Go.AM
open Go

/-! ### parts of maps, and what lies in a span -/
def partS (m : List Rn) (s : Sp) : List Rn × Int := if chk m ≠ 0 then ([], chk m) else if s.1 < 0 ∨ s.1 > s.2 ∨ s.2 > lenS m then ([], 1) else (adds [] (pieces m s.1 s.2), 0)
def fndS : List Rn → Int → Sp → List Sp
  | [], _, _ => []
  | r :: t, at_, s => (if max (lo r) s.1 < min (hi r + 1) s.2 then [(at_ + (if r.2.2 = true then hi r + 1 - min (hi r + 1) s.2 else max (lo r) s.1 - lo r), at_ + (if r.2.2 = true then hi r + 1 - min (hi r + 1) s.2 else max (lo r) s.1 - lo r) + min (hi r + 1) s.2 - max (lo r) s.1)] else []) ++ fndS t (at_ + r.2.1) s
theorem fndS_len : ∀ (m : List Rn) (a : Int) (s : Sp), (fndS m a s).length ≤ m.length
  | [], _, _ => by simp [fndS]
  | r :: t, a, s => by
    have := fndS_len t (a + r.2.1) s
    unfold fndS
    rw [List.length_append, List.length_cons]
    split <;> simp <;> omega
/-- each span lies where its run lies -/
theorem fndS_in : ∀ (m : List Rn) (a : Int) (s : Sp), goods m → ∀ x ∈ fndS m a s, a ≤ x.1 ∧ x.1 < x.2 ∧ x.2 ≤ a + lenS m
  | [], _, _, _, x, hx => by simp [fndS] at hx
  | r :: t, a, s, ⟨g1, g2⟩, x, hx => by
    obtain ⟨l1, l2, l3, l4⟩ := g1.lohi
    have h0 := lenS_nonneg g2
    rw [lenS]
    unfold fndS at hx
    rcases List.mem_append.1 hx with hx | hx
    · by_cases h : max (lo r) s.1 < min (hi r + 1) s.2
      · rw [if_pos h, List.mem_singleton] at hx
        subst hx
        show a ≤ a + _ ∧ a + _ < a + _ + min (hi r + 1) s.2 - max (lo r) s.1 ∧ a + _ + min (hi r + 1) s.2 - max (lo r) s.1 ≤ _
        split <;> omega
      · rw [if_neg h] at hx; simp at hx
    · have := fndS_in t (a + r.2.1) s g2 x hx
      have := g1.1
      omega
def findS (m : List Rn) (s : Sp) : List Sp × Int := if chk m ≠ 0 then ([], chk m) else if s.1 < 0 ∨ s.1 > s.2 ∨ s.2 > 17179869184 then ([], 1) else (nf (fndS m 0 s), 0)
end Go.AM
namespace Go.AM
open Go Go.Proofs
noncomputable section
abbrev R_u59 : Type := Int
def res_u59 (r : R_u59) : AV := .r (.v (.int .i64 r))
def bo_u59 (r_ : T3.T) (r : R_u59) : List (Nat × Blk) := []
def args_u59 (r_ : T3.T) : List AV := [.agg (rvs (enc T3 r_))]
def bin_u59 (r_ : T3.T) : List Blk := []
abbrev C_u59 (r_ : T3.T) (r : R_u59) : Prop := CC Try.prog 32 (args_u59 r_) (bin_u59 r_) (res_u59 r) (bo_u59 r_ r)
def f_u59 (k : Nat) (r_ : T3.T) : Option R_u59 :=
  bif (decide (r_.1 < (0 : Int)) || decide (r_.1 > r_.2.1) || decide (r_.2.1 > (12000 : Int)) || decide (r_.2.2.1 < (0 : Int)) || decide (r_.2.2.1 > r_.2.2.2) || decide (r_.2.2.2 > (17179869184 : Int))) then
  some 1
  else
  some 0
def v_u59 (k : Nat) (r_ : T3.T) : R_u59 := (f_u59 k r_).getD 0
def ke_u59 (k : Nat) : Ke := (32, fun xs => match xs with
  | [_] => some [false]
  | _ => none, fun xs bs => match xs, bs with
  | [.agg qr_], [] => (decS [] T3 qr_).bind fun r_ => some (.one (res_u59 (v_u59 k r_), bo_u59 r_ (v_u59 k r_)))
  | _, _ => none)
theorem of_u59 (k : Nat) (r_ : T3.T) (r : R_u59) (h : f_u59 k r_ = some r) : C_u59 r_ r := by
  refine CC.of (fn := Try.f32) (by kernel_rfl) (by kernel_rfl) (by kernel_rfl) (by kernel_rfl) ?_
  unfold f_u59 at h
  exact go (mkK []) [] [] [.autoB [2] true []] (gT h (fun c h => gL h) fun c h => gL h) (by kernel_rfl)
theorem cc_u59 {k : Nat} {r_ : T3.T} (h : (f_u59 k r_).isSome = true) : C_u59 r_ (v_u59 k r_) := ccG (Φ := C_u59 r_) h (of_u59 k r_)
abbrev R_u1 : Type := Int
def res_u1 (r : R_u1) : AV := .r (.v (.int .i64 r))
def bo_u1 (l_ : List (T4).T) (r : R_u1) : List (Nat × Blk) := []
def args_u1 (l_ : List (T4).T) : List AV := [.r (.ro T4 l_)]
def bin_u1 (l_ : List (T4).T) : List Blk := []
abbrev C_u1 (l_ : List (T4).T) (r : R_u1) : Prop := CC Try.prog 27 (args_u1 l_) (bin_u1 l_) (res_u1 r) (bo_u1 l_ r)
def st_u1_4 (y0 : List (T4).T) (y1 : Int) (y2 : Int) : St := ⟨mkS 58 [(9, .r (.ro T4 y0)), (10, .r (.v (.int .i64 y1))), (11, .r (.v (.int .i64 y2)))], []⟩
def f_u1_4 (k : Nat) : Nat → List (T4).T → Int → Int → Option R_u1
  | 0, _, _, _ => none
  | j + 1, y0, y1, y2 =>
  bif (decide (y2 < y1)) then
  if (0 ≤ y2) ∧ (y2 < (↑y0.length : Int)) then
  if ((f_u59 k (y0.getD y2.toNat T4.dflt).1).isSome = true) then
  bif (v_u59 k (y0.getD y2.toNat T4.dflt).1 != (0 : Int)) then
  some (v_u59 k (y0.getD y2.toNat T4.dflt).1)
  else
  bif ((y0.getD y2.toNat T4.dflt).1.1 == (y0.getD y2.toNat T4.dflt).1.2.1 || (y0.getD y2.toNat T4.dflt).1.2.2.1 == (y0.getD y2.toNat T4.dflt).1.2.2.2) then
  some 10
  else
  bif (decide ((y0.getD y2.toNat T4.dflt).2.1 < (1 : Int)) || decide ((y0.getD y2.toNat T4.dflt).2.1 > (16 : Int)) || decide ((y0.getD y2.toNat T4.dflt).2.2 < (1 : Int)) || decide ((y0.getD y2.toNat T4.dflt).2.2 > (100 : Int))) then
  some 1
  else
  f_u1_4 k j y0 y1 ((IntKind.i64.wrap (y2 + 1)))
  else none
  else none
  else
  some 0
def f_u1 (k : Nat) (l_ : List (T4).T) : Option R_u1 :=
  bif (decide ((↑l_.length : Int) > (128 : Int))) then
  some 8
  else
  f_u1_4 k k l_ ((↑l_.length : Int)) 0
def v_u1 (k : Nat) (l_ : List (T4).T) : R_u1 := (f_u1 k l_).getD 0
def ke_u1 (k : Nat) : Ke := (27, fun xs => match xs with
  | [_] => some [false]
  | _ => none, fun xs bs => match xs, bs with
  | [.r (.ro tl__ ql_)], [] => (castL tl__ T4 ql_).bind fun l_ => some (.one (res_u1 (v_u1 k l_), bo_u1 l_ (v_u1 k l_)))
  | _, _ => none)
def cs_u1 : List (Nat × List Cmd) := [(4, [.autoB [9, 10, 11] false []])]
abbrev E_u1 (l_ : List (T4).T) (todo : List Item) (st : St) (o : Option R_u1) : Prop := ∀ r, o = some r → Ev Try.prog Try.f27 0 todo st (res_u1 r) (bo_u1 l_ r)
theorem ev_u1 (k : Nat) (l_ : List (T4).T) : ∀ j, (∀ (y0 : List (T4).T) (y1 : Int) (y2 : Int), E_u1 l_ (placeAt Try.f27 4) (st_u1_4 y0 y1 y2) (f_u1_4 k j y0 y1 y2))
  | 0 => fun _ _ _ _ h => (nomatch h)
  | j + 1 => by
    have ih := @ev_u1 k l_ j
    · intro y0 y1 y2 r h
      rw [f_u1_4] at h
      exact go (mkK [ke_u59 k]) [] cs_u1 [.autoB [2] true []] (gT h (fun c h => gN2 h fun h => gN1 h (fun q => cc_u59 q) fun h => gT h (fun c h => gL h) fun c h => gT h (fun c h => gL h) fun c h => gT h (fun c h => gL h) fun c h => gC h 4 (ih _ _ _ _)) fun c h => gL h) (by kernel_rfl)
theorem of_u1 (k : Nat) (l_ : List (T4).T) (r : R_u1) (h : f_u1 k l_ = some r) : C_u1 l_ r := by
  refine CC.of (fn := Try.f27) (by kernel_rfl) (by kernel_rfl) (by kernel_rfl) (by kernel_rfl) ?_
  unfold f_u1 at h
  exact go (mkK [ke_u59 k]) [] cs_u1 [.autoB [2] true []] (gT h (fun c h => gL h) fun c h => gC h 4 ((ev_u1 k l_ k) _ _ _ _)) (by kernel_rfl)
theorem cc_u1 {k : Nat} {l_ : List (T4).T} (h : (f_u1 k l_).isSome = true) : C_u1 l_ (v_u1 k l_) := ccG (Φ := C_u1 l_) h (of_u1 k l_)
abbrev R_u34 : Type := List (T0).T × Int
def res_u34 (r : R_u34) : AV := .tup [.r (.ro T0 r.1), .r (.v (.int .i64 r.2))]
def bo_u34 (m_ : List (T0).T) (s_ : T9.T) (r : R_u34) : List (Nat × Blk) := []
def args_u34 (m_ : List (T0).T) (s_ : T9.T) : List AV := [.r (.ro T0 m_), .agg (rvs (enc T9 s_))]
def bin_u34 (m_ : List (T0).T) (s_ : T9.T) : List Blk := []
abbrev C_u34 (m_ : List (T0).T) (s_ : T9.T) (r : R_u34) : Prop := CC Try.prog 34 (args_u34 m_ s_) (bin_u34 m_ s_) (res_u34 r) (bo_u34 m_ s_ r)
def f_u34 (k : Nat) (m_ : List (T0).T) (s_ : T9.T) : Option R_u34 :=
  if ((f_u28 k m_).isSome = true) then
  bif (v_u28 k m_ != (0 : Int)) then
  some (([], v_u28 k m_))
  else
  bif (decide (s_.1 < (0 : Int)) || decide (s_.1 > s_.2)) then
  if ((decide (s_.1 < (0 : Int)) || decide (s_.1 > s_.2)) = true) then
  some (([], 1))
  else none
  else
  if ((decide (s_.1 < (0 : Int)) || decide (s_.1 > s_.2)) = false) ∧ ((f_u43 k m_).isSome = true) then
  bif (false || decide (s_.2 > v_u43 k m_)) then
  some (([], 1))
  else
  if ((f_u38 k m_ s_.1 s_.2 []).isSome = true) then
  bif (Sum.isLeft (v_u37 k (v_u38 k m_ s_.1 s_.2 []))) then
  if ((f_u37 k (v_u38 k m_ s_.1 s_.2 [])).isSome = true) then
  some (([], vA_u37 k (v_u38 k m_ s_.1 s_.2 [])))
  else none
  else
  if ((f_u37 k (v_u38 k m_ s_.1 s_.2 [])).isSome = true) then
  some ((v_u38 k m_ s_.1 s_.2 [], vB_u37 k (v_u38 k m_ s_.1 s_.2 [])))
  else none
  else none
  else none
  else none
def v_u34 (k : Nat) (m_ : List (T0).T) (s_ : T9.T) : R_u34 := (f_u34 k m_ s_).getD ([], 0)
def ke_u34 (k : Nat) : Ke := (34, fun xs => match xs with
  | [_, _] => some [false, false]
  | _ => none, fun xs bs => match xs, bs with
  | [.r (.ro tm__ qm_), .agg qs_], [] => (castL tm__ T0 qm_).bind fun m_ => (decS [] T9 qs_).bind fun s_ => some (.one (res_u34 (v_u34 k m_ s_), bo_u34 m_ s_ (v_u34 k m_ s_)))
  | _, _ => none)
theorem of_u34 (k : Nat) (m_ : List (T0).T) (s_ : T9.T) (r : R_u34) (h : f_u34 k m_ s_ = some r) : C_u34 m_ s_ r := by
  refine CC.of (fn := Try.f34) (by kernel_rfl) (by kernel_rfl) (by kernel_rfl) (by kernel_rfl) ?_
  unfold f_u34 at h
  exact go (mkK [ke_u28 k, ke_u43 k, ke_u36 k, ke_u38 k, ke_u37 k]) [] [] [.frz 4 false (RTy.list T0), .autoB [4, 5] true []] (gN1 h (fun q => cc_u28 q) fun h => gT h (fun c h => gL h) fun c h => gT h (fun c h => gN1 h id fun h => gU1 h (.need [CC Try.prog 51 (args_u38 m_ s_.1 s_.2 []) (bin_u38 m_ s_.1 s_.2 []) (res_u38 (v_u38 k m_ s_.1 s_.2 [])) (bo_u38 m_ s_.1 s_.2 [] (v_u38 k m_ s_.1 s_.2 []))] (.test ((Sum.isLeft (v_u37 k (v_u38 k m_ s_.1 s_.2 [])))) (.need [CC Try.prog 53 (args_u37 (v_u38 k m_ s_.1 s_.2 [])) (bin_u37 (v_u38 k m_ s_.1 s_.2 [])) (resA_u37 (vA_u37 k (v_u38 k m_ s_.1 s_.2 []))) (boA_u37 (v_u38 k m_ s_.1 s_.2 []) (vA_u37 k (v_u38 k m_ s_.1 s_.2 [])))] (.leaf (.tup [.r (.ro T0 ([])), .r (.v (.int .i64 ((vA_u37 k (v_u38 k m_ s_.1 s_.2 [])))))]) [])) (.need [CC Try.prog 53 (args_u37 (v_u38 k m_ s_.1 s_.2 [])) (bin_u37 (v_u38 k m_ s_.1 s_.2 [])) (resB_u37 (vB_u37 k (v_u38 k m_ s_.1 s_.2 []))) (boB_u37 (v_u38 k m_ s_.1 s_.2 []) (vB_u37 k (v_u38 k m_ s_.1 s_.2 [])))] (.leaf (.tup [.r (.ro T0 ((v_u38 k m_ s_.1 s_.2 []))), .r (.v (.int .i64 ((vB_u37 k (v_u38 k m_ s_.1 s_.2 [])))))]) [])))) fun h => gL h) fun c h => gN h (fun q => conjC q.1 (conjC (cc_u43 q.2) conj0)) fun h => gT h (fun c h => gL h) fun c h => gN1 h (fun q => cc_u38 q) fun h => gT h (fun c h => gN1 h (fun q => ccA_u37 q (by assumption)) fun h => gL h) fun c h => gN1 h (fun q => ccB_u37 q (by assumption)) fun h => gL h) (by kernel_rfl)
theorem cc_u34 {k : Nat} {m_ : List (T0).T} {s_ : T9.T} (h : (f_u34 k m_ s_).isSome = true) : C_u34 m_ s_ (v_u34 k m_ s_) := ccG (Φ := C_u34 m_ s_) h (of_u34 k m_ s_)

end
/-! ### rectangles and defects -/
abbrev Rc4 := Int × Int × Int × Int   -- Left, Right, From, To
abbrev Spt := Rc4 × Int × Int         -- Area, Kind, Level
def rectB (r : Rc4) : Bool := decide (r.1 < (0 : Int)) || decide (r.1 > r.2.1) || decide (r.2.1 > (12000 : Int)) || decide (r.2.2.1 < (0 : Int)) || decide (r.2.2.1 > r.2.2.2) || decide (r.2.2.2 > (17179869184 : Int))
def rectE (r : Rc4) : Int := bif rectB r then 1 else 0
structure RectOk (r : Rc4) : Prop where
  l : 0 ≤ r.1
  lr : r.1 ≤ r.2.1
  w : r.2.1 ≤ 12000
  f : 0 ≤ r.2.2.1
  ft : r.2.2.1 ≤ r.2.2.2
  t : r.2.2.2 ≤ 17179869184
theorem rectE_zero {r : Rc4} (h : rectE r = 0) : RectOk r := by
  unfold rectE at h
  cases e : rectB r
  · unfold rectB at e
    simp only [Bool.or_eq_false_iff, decide_eq_false_iff_not] at e
    obtain ⟨⟨⟨⟨⟨a, b⟩, c⟩, d⟩, f⟩, g⟩ := e
    exact ⟨by omega, by omega, by omega, by omega, by omega, by omega⟩
  · rw [e] at h; cases h
theorem rect_Check_s (k : Nat) (r : Rc4) : f_u59 k r = some (rectE r) := by
  show (bif rectB r then some (1 : Int) else some 0) = some (bif rectB r then 1 else 0)
  cases rectB r <;> rfl
theorem rect_Check_v (k : Nat) (r : Rc4) : v_u59 k r = rectE r := by
  unfold v_u59; rw [rect_Check_s]; rfl
def spotE (x : Spt) : Int := bif (rectE x.1 != 0) then rectE x.1 else bif (x.1.1 == x.1.2.1 || x.1.2.2.1 == x.1.2.2.2) then 10 else bif (decide (x.2.1 < (1 : Int)) || decide (x.2.1 > (16 : Int)) || decide (x.2.2 < (1 : Int)) || decide (x.2.2 > (100 : Int))) then 1 else 0
def spotGo : List Spt → Int
  | [] => 0
  | x :: t => bif (spotE x != 0) then spotE x else spotGo t
def spotsE (l : List Spt) : Int := if l.length > 128 then 8 else spotGo l
structure SpotOk (x : Spt) : Prop where
  area : RectOk x.1
  lr : x.1.1 < x.1.2.1
  ft : x.1.2.2.1 < x.1.2.2.2
  kind : 1 ≤ x.2.1 ∧ x.2.1 ≤ 16
  level : 1 ≤ x.2.2 ∧ x.2.2 ≤ 100
theorem spotE_zero {x : Spt} (h : spotE x = 0) : SpotOk x := by
  unfold spotE at h
  by_cases h1 : rectE x.1 = 0
  · have ok := rectE_zero h1
    rw [show (rectE x.1 != 0) = false by simp [h1], cond_false] at h
    obtain ⟨a, b, c, d, e, f⟩ := ok
    cases h2 : (x.1.1 == x.1.2.1 || x.1.2.2.1 == x.1.2.2.2)
    · rw [h2, cond_false] at h
      simp only [Bool.or_eq_false_iff, beq_eq_false_iff_ne, ne_eq] at h2
      cases h3 : (decide (x.2.1 < (1 : Int)) || decide (x.2.1 > (16 : Int)) || decide (x.2.2 < (1 : Int)) || decide (x.2.2 > (100 : Int)))
      · simp only [Bool.or_eq_false_iff, decide_eq_false_iff_not] at h3
        exact ⟨⟨a, b, c, d, e, f⟩, by omega, by omega, ⟨by omega, by omega⟩, by omega, by omega⟩
      · rw [h3] at h; cases h
    · rw [h2] at h; cases h
  · rw [show (rectE x.1 != 0) = true from bne_iff_ne.2 h1, cond_true] at h
    exact absurd h h1
theorem spotGo_zero : ∀ {l : List Spt}, spotGo l = 0 → ∀ x ∈ l, SpotOk x
  | [], _, x, hx => by simp at hx
  | y :: t, h, x, hx => by
    unfold spotGo at h
    by_cases h1 : spotE y = 0
    · rw [show (spotE y != 0) = false by simp [h1], cond_false] at h
      rcases List.mem_cons.1 hx with e | hx'
      · rw [e]; exact spotE_zero h1
      · exact spotGo_zero h x hx'
    · rw [show (spotE y != 0) = true from bne_iff_ne.2 h1, cond_true] at h
      exact absurd h h1
theorem spotsE_zero {l : List Spt} (h : spotsE l = 0) : l.length ≤ 128 ∧ ∀ x ∈ l, SpotOk x := by
  unfold spotsE at h
  by_cases h1 : l.length > 128
  · rw [if_pos h1] at h; omega
  · rw [if_neg h1] at h
    exact ⟨by omega, spotGo_zero h⟩
theorem defect_Check_l (k : Nat) (l : List Spt) (hl : l.length ≤ 128) : ∀ (d i j : Nat), i + d = l.length → d < j → f_u1_4 k j l (l.length : Int) (i : Int) = some (spotGo (l.drop i)) := by
  intro d
  induction d with
  | zero =>
    intro i j hi hj
    obtain ⟨j, rfl⟩ : ∃ q, j = q + 1 := ⟨j - 1, by omega⟩
    rw [f_u1_4, decide_eq_false (by omega : ¬ (i : Int) < (l.length : Int)), cond_false, List.drop_of_length_le (by omega)]; rfl
  | succ d ih =>
    intro i j hi hj
    obtain ⟨j, rfl⟩ : ∃ q, j = q + 1 := ⟨j - 1, by omega⟩
    rw [f_u1_4, decide_eq_true (by omega : (i : Int) < (l.length : Int)), cond_true, if_pos ⟨by omega, by omega⟩, Int.toNat_natCast, wrapS i (by omega), ih (i + 1) j (by omega) (by omega), drop_cons' l i T4.dflt (by omega), spotGo, rect_Check_s, rect_Check_v, Option.isSome_some, if_pos rfl]
    generalize l.getD i T4.dflt = x
    generalize spotGo (l.drop (i + 1)) = g
    show (bif (rectE x.1 != 0) then some (rectE x.1) else bif (x.1.1 == x.1.2.1 || x.1.2.2.1 == x.1.2.2.2) then some 10 else bif (decide (x.2.1 < (1 : Int)) || decide (x.2.1 > (16 : Int)) || decide (x.2.2 < (1 : Int)) || decide (x.2.2 > (100 : Int))) then some 1 else some g) = some (bif (spotE x != 0) then spotE x else g)
    unfold spotE
    cases h1 : (rectE x.1 != 0)
    · cases (x.1.1 == x.1.2.1 || x.1.2.2.1 == x.1.2.2.2)
      · cases (decide (x.2.1 < (1 : Int)) || decide (x.2.1 > (16 : Int)) || decide (x.2.2 < (1 : Int)) || decide (x.2.2 > (100 : Int))) <;> rfl
      · rfl
    · rw [cond_true, cond_true, h1]; rfl
theorem defect_Check_s (k : Nat) (hk : 300 ≤ k) (l : List Spt) : f_u1 k l = some (spotsE l) := by
  unfold f_u1 spotsE
  by_cases h : l.length > 128
  · rw [if_pos h, decide_eq_true (by omega : (l.length : Int) > 128)]; rfl
  · rw [if_neg h, decide_eq_false (by omega : ¬ (l.length : Int) > 128), cond_false]
    exact defect_Check_l k l (by omega) l.length 0 k (by omega) (by omega)
theorem defect_Check_v (k : Nat) (hk : 300 ≤ k) (l : List Spt) : v_u1 k l = spotsE l := by
  unfold v_u1; rw [defect_Check_s k hk]; rfl
/-! ### parts of maps -/
theorem part_test (s : Sp) : (decide (s.1 < (0 : Int)) || decide (s.1 > s.2)) = decide (s.1 < 0 ∨ s.1 > s.2) := by
  by_cases h1 : s.1 < 0
  · rw [decide_eq_true h1, decide_eq_true (Or.inl h1), Bool.true_or]
  · by_cases h2 : s.1 > s.2
    · rw [decide_eq_true h2, decide_eq_true (Or.inr h2), Bool.or_true]
    · rw [decide_eq_false h1, decide_eq_false h2, decide_eq_false (fun h => by rcases h with h | h; exact h1 h; exact h2 h)]; rfl
theorem iso_Part_s (k : Nat) (hk : 2100 ≤ k) (m : List Rn) (s : Sp) : f_u34 k m s = some (partS m s) := by
  unfold f_u34 partS
  rw [iso_Check_s k (by omega), iso_Check_v k (by omega), Option.isSome_some, if_pos rfl]
  by_cases h1 : chk m = 0
  · have hc := chk_zero.1 h1
    have hl := hc.len
    have ht := hc.tot
    rw [show (chk m != 0) = false by simp [h1], cond_false, if_neg (fun h : chk m ≠ 0 => h h1), iso_length_s k m hc.goods (by omega) (by omega), iso_length_v k m hc.goods (by omega) (by omega), part_test]
    by_cases h2 : s.1 < 0 ∨ s.1 > s.2
    · rw [decide_eq_true h2, cond_true, if_pos rfl, if_pos (show s.1 < 0 ∨ s.1 > s.2 ∨ s.2 > lenS m by omega)]
    · rw [decide_eq_false h2, cond_false, if_pos ⟨rfl, rfl⟩, Bool.false_or]
      by_cases h3 : s.2 > lenS m
      · rw [decide_eq_true h3, cond_true, if_pos (show s.1 < 0 ∨ s.1 > s.2 ∨ s.2 > lenS m by omega)]
      · have ok : EachOk m s.1 s.2 := ⟨hc.goods, by omega, ⟨by omega, by omega⟩, by omega, by omega⟩
        have ha := adds_len (pieces m s.1 s.2) []
        have hp := pieces_len m s.1 s.2
        rw [List.length_nil, Nat.zero_add] at ha
        have hd : f_u37 k (adds [] (pieces m s.1 s.2)) = some (.inr 0) := by
          unfold f_u37
          rw [decide_eq_false (by omega : ¬ ((adds [] (pieces m s.1 s.2)).length : Int) > 256)]; rfl
        rw [decide_eq_false h3, cond_false, if_neg (show ¬ (s.1 < 0 ∨ s.1 > s.2 ∨ s.2 > lenS m) by omega), iso_each_add_s k (by omega) m s.1 s.2 ok [] trivial (by simp), iso_each_add_v k (by omega) m s.1 s.2 ok [] trivial (by simp)]
        unfold vB_u37 v_u37
        rw [hd]; rfl
  · rw [show (chk m != 0) = true from bne_iff_ne.2 h1, cond_true, if_pos h1]
theorem iso_Part_v (k : Nat) (hk : 2100 ≤ k) (m : List Rn) (s : Sp) : v_u34 k m s = partS m s := by
  unfold v_u34; rw [iso_Part_s k hk]; rfl
end Go.AM
namespace Go.AM
open Go Go.Proofs
noncomputable section
abbrev R_u31 : Type := List (T9).T × Int
def res_u31 (r : R_u31) : AV := .tup [.r (.ro T9 r.1), .r (.v (.int .i64 r.2))]
def bo_u31 (m_ : List (T0).T) (s_ : T9.T) (r : R_u31) : List (Nat × Blk) := []
def args_u31 (m_ : List (T0).T) (s_ : T9.T) : List AV := [.r (.ro T0 m_), .agg (rvs (enc T9 s_))]
def bin_u31 (m_ : List (T0).T) (s_ : T9.T) : List Blk := []
abbrev C_u31 (m_ : List (T0).T) (s_ : T9.T) (r : R_u31) : Prop := CC Try.prog 29 (args_u31 m_ s_) (bin_u31 m_ s_) (res_u31 r) (bo_u31 m_ s_ r)
def st_u31_9 (y0 : Int) (y1 : List (T0).T) (y2 : Int) (y3 : Int) (y4 : T9.T) (y5 : List (T9).T) : St := ⟨mkS 89 [(3, .ptr 1000000 0 0), (7, .own 1000001 0), (8, .r (.v (.int .i64 y0))), (35, .r (.ro T0 y1)), (36, .r (.v (.int .i64 y2))), (37, .r (.v (.int .i64 y3)))], [(1000000, 0, .var 82 (rvs (enc T9 y4))), (1000001, 0, .row 82 T9 y5)]⟩
def st_u31_20 (y0 : List (T9).T) : St := ⟨mkS 89 [(7, .r (.ro T9 y0))], []⟩
mutual
def f_u31_9 (k : Nat) : Nat → Int → List (T0).T → Int → Int → T9.T → List (T9).T → Option R_u31
  | 0, _, _, _, _, _, _ => none
  | j + 1, y0, y1, y2, y3, y4, y5 =>
  bif (decide (y3 < y2)) then
  if (0 ≤ y3) ∧ (y3 < (↑y1.length : Int)) then
  if ((f_u42 k (y1.getD y3.toNat T0.dflt)).isSome = true) then
  bif (decide ((if y4.1 > (v_u42 k (y1.getD y3.toNat T0.dflt)).1 then y4.1 else (v_u42 k (y1.getD y3.toNat T0.dflt)).1) < if y4.2 < (v_u42 k (y1.getD y3.toNat T0.dflt)).2 then y4.2 else (v_u42 k (y1.getD y3.toNat T0.dflt)).2)) then
  bif (y1.getD y3.toNat T0.dflt).2.2 then
  if ((y5.length + [(IntKind.i64.wrap (y0 + IntKind.i64.wrap ((v_u42 k (y1.getD y3.toNat T0.dflt)).2 - if y4.2 < (v_u42 k (y1.getD y3.toNat T0.dflt)).2 then y4.2 else (v_u42 k (y1.getD y3.toNat T0.dflt)).2)), IntKind.i64.wrap (IntKind.i64.wrap (IntKind.i64.wrap (y0 + IntKind.i64.wrap ((v_u42 k (y1.getD y3.toNat T0.dflt)).2 - if y4.2 < (v_u42 k (y1.getD y3.toNat T0.dflt)).2 then y4.2 else (v_u42 k (y1.getD y3.toNat T0.dflt)).2)) + if y4.2 < (v_u42 k (y1.getD y3.toNat T0.dflt)).2 then y4.2 else (v_u42 k (y1.getD y3.toNat T0.dflt)).2) - if y4.1 > (v_u42 k (y1.getD y3.toNat T0.dflt)).1 then y4.1 else (v_u42 k (y1.getD y3.toNat T0.dflt)).1))].length) * (16 : Nat) ≤ (140737488355328 : Nat)) then
  f_u31_9 k j ((IntKind.i64.wrap (y0 + (y1.getD y3.toNat T0.dflt).2.1))) y1 y2 ((IntKind.i64.wrap (y3 + 1))) y4 ((y5 ++ [(IntKind.i64.wrap (y0 + IntKind.i64.wrap ((v_u42 k (y1.getD y3.toNat T0.dflt)).2 - if y4.2 < (v_u42 k (y1.getD y3.toNat T0.dflt)).2 then y4.2 else (v_u42 k (y1.getD y3.toNat T0.dflt)).2)), IntKind.i64.wrap (IntKind.i64.wrap (IntKind.i64.wrap (y0 + IntKind.i64.wrap ((v_u42 k (y1.getD y3.toNat T0.dflt)).2 - if y4.2 < (v_u42 k (y1.getD y3.toNat T0.dflt)).2 then y4.2 else (v_u42 k (y1.getD y3.toNat T0.dflt)).2)) + if y4.2 < (v_u42 k (y1.getD y3.toNat T0.dflt)).2 then y4.2 else (v_u42 k (y1.getD y3.toNat T0.dflt)).2) - if y4.1 > (v_u42 k (y1.getD y3.toNat T0.dflt)).1 then y4.1 else (v_u42 k (y1.getD y3.toNat T0.dflt)).1))]))
  else none
  else
  if ((y5.length + [(IntKind.i64.wrap (y0 + IntKind.i64.wrap ((if y4.1 > (v_u42 k (y1.getD y3.toNat T0.dflt)).1 then y4.1 else (v_u42 k (y1.getD y3.toNat T0.dflt)).1) - (v_u42 k (y1.getD y3.toNat T0.dflt)).1)), IntKind.i64.wrap (IntKind.i64.wrap (IntKind.i64.wrap (y0 + IntKind.i64.wrap ((if y4.1 > (v_u42 k (y1.getD y3.toNat T0.dflt)).1 then y4.1 else (v_u42 k (y1.getD y3.toNat T0.dflt)).1) - (v_u42 k (y1.getD y3.toNat T0.dflt)).1)) + if y4.2 < (v_u42 k (y1.getD y3.toNat T0.dflt)).2 then y4.2 else (v_u42 k (y1.getD y3.toNat T0.dflt)).2) - if y4.1 > (v_u42 k (y1.getD y3.toNat T0.dflt)).1 then y4.1 else (v_u42 k (y1.getD y3.toNat T0.dflt)).1))].length) * (16 : Nat) ≤ (140737488355328 : Nat)) then
  f_u31_9 k j ((IntKind.i64.wrap (y0 + (y1.getD y3.toNat T0.dflt).2.1))) y1 y2 ((IntKind.i64.wrap (y3 + 1))) y4 ((y5 ++ [(IntKind.i64.wrap (y0 + IntKind.i64.wrap ((if y4.1 > (v_u42 k (y1.getD y3.toNat T0.dflt)).1 then y4.1 else (v_u42 k (y1.getD y3.toNat T0.dflt)).1) - (v_u42 k (y1.getD y3.toNat T0.dflt)).1)), IntKind.i64.wrap (IntKind.i64.wrap (IntKind.i64.wrap (y0 + IntKind.i64.wrap ((if y4.1 > (v_u42 k (y1.getD y3.toNat T0.dflt)).1 then y4.1 else (v_u42 k (y1.getD y3.toNat T0.dflt)).1) - (v_u42 k (y1.getD y3.toNat T0.dflt)).1)) + if y4.2 < (v_u42 k (y1.getD y3.toNat T0.dflt)).2 then y4.2 else (v_u42 k (y1.getD y3.toNat T0.dflt)).2) - if y4.1 > (v_u42 k (y1.getD y3.toNat T0.dflt)).1 then y4.1 else (v_u42 k (y1.getD y3.toNat T0.dflt)).1))]))
  else none
  else
  f_u31_9 k j ((IntKind.i64.wrap (y0 + (y1.getD y3.toNat T0.dflt).2.1))) y1 y2 ((IntKind.i64.wrap (y3 + 1))) y4 y5
  else none
  else none
  else
  f_u31_20 k j y5
def f_u31_20 (k : Nat) : Nat → List (T9).T → Option R_u31
  | 0, _ => none
  | j + 1, y0 =>
  if ((f_u74 k y0).isSome = true) then
  some (((v_u74 k y0).1, (v_u74 k y0).2))
  else none
end
def f_u31 (k : Nat) (m_ : List (T0).T) (s_ : T9.T) : Option R_u31 :=
  if ((f_u28 k m_).isSome = true) then
  bif (v_u28 k m_ != (0 : Int)) then
  some (([], v_u28 k m_))
  else
  bif (decide (s_.1 < (0 : Int)) || decide (s_.1 > s_.2) || decide (s_.2 > (17179869184 : Int))) then
  some (([], 1))
  else
  f_u31_9 k k 0 m_ ((↑m_.length : Int)) 0 s_ ([])
  else none
def v_u31 (k : Nat) (m_ : List (T0).T) (s_ : T9.T) : R_u31 := (f_u31 k m_ s_).getD ([], 0)
def ke_u31 (k : Nat) : Ke := (29, fun xs => match xs with
  | [_, _] => some [false, false]
  | _ => none, fun xs bs => match xs, bs with
  | [.r (.ro tm__ qm_), .agg qs_], [] => (castL tm__ T0 qm_).bind fun m_ => (decS [] T9 qs_).bind fun s_ => some (.one (res_u31 (v_u31 k m_ s_), bo_u31 m_ s_ (v_u31 k m_ s_)))
  | _, _ => none)
def cs_u31 : List (Nat × List Cmd) := [(9, [.row 7 82 T9, .autoB [3, 7, 8, 35, 36, 37] false []]), (20, [.frz 7 false (RTy.list T9), .autoB [7] false []])]
abbrev E_u31 (m_ : List (T0).T) (s_ : T9.T) (todo : List Item) (st : St) (o : Option R_u31) : Prop := ∀ r, o = some r → Ev Try.prog Try.f29 0 todo st (res_u31 r) (bo_u31 m_ s_ r)
theorem ev_u31 (k : Nat) (m_ : List (T0).T) (s_ : T9.T) : ∀ j, (∀ (y0 : Int) (y1 : List (T0).T) (y2 : Int) (y3 : Int) (y4 : T9.T) (y5 : List (T9).T), E_u31 m_ s_ (placeAt Try.f29 9) (st_u31_9 y0 y1 y2 y3 y4 y5) (f_u31_9 k j y0 y1 y2 y3 y4 y5)) ∧ (∀ (y0 : List (T9).T), E_u31 m_ s_ (placeAt Try.f29 20) (st_u31_20 y0) (f_u31_20 k j y0))
  | 0 => ⟨fun _ _ _ _ _ _ _ h => (nomatch h), fun _ _ h => (nomatch h)⟩
  | j + 1 => by
    have ih := @ev_u31 k m_ s_ j
    refine ⟨?_, ?_⟩
    · intro y0 y1 y2 y3 y4 y5 r h
      rw [f_u31_9] at h
      exact go (mkK [ke_u28 k, ke_u42 k, ke_u74 k]) [20] cs_u31 [.frz 4 false (RTy.list T9), .autoB [4, 5] true []] (gT h (fun c h => gN2 h fun h => gN1 h (fun q => cc_u42 q) fun h => gT h (fun c h => gT h (fun c h => gN1 h id fun h => gC h 9 (ih.1 _ _ _ _ _ _ _)) fun c h => gN1 h id fun h => gC h 9 (ih.1 _ _ _ _ _ _ _)) fun c h => gC h 9 (ih.1 _ _ _ _ _ _ _)) fun c h => gC h 20 (ih.2 _ _)) (by kernel_rfl)
    · intro y0 r h
      rw [f_u31_20] at h
      exact go (mkK [ke_u28 k, ke_u42 k, ke_u74 k]) [20] cs_u31 [.frz 4 false (RTy.list T9), .autoB [4, 5] true []] (gN1 h (fun q => cc_u74 q) fun h => gL h) (by kernel_rfl)
theorem of_u31 (k : Nat) (m_ : List (T0).T) (s_ : T9.T) (r : R_u31) (h : f_u31 k m_ s_ = some r) : C_u31 m_ s_ r := by
  refine CC.of (fn := Try.f29) (by kernel_rfl) (by kernel_rfl) (by kernel_rfl) (by kernel_rfl) ?_
  unfold f_u31 at h
  exact go (mkK [ke_u28 k, ke_u42 k, ke_u74 k]) [20] cs_u31 [.frz 4 false (RTy.list T9), .autoB [4, 5] true []] (gN1 h (fun q => cc_u28 q) fun h => gT h (fun c h => gL h) fun c h => gT h (fun c h => gL h) fun c h => gC h 9 ((ev_u31 k m_ s_ k).1 _ _ _ _ _ _ _)) (by kernel_rfl)
theorem cc_u31 {k : Nat} {m_ : List (T0).T} {s_ : T9.T} (h : (f_u31 k m_ s_).isSome = true) : C_u31 m_ s_ (v_u31 k m_ s_) := ccG (Φ := C_u31 m_ s_) h (of_u31 k m_ s_)

end
theorem max_if (a b : Int) : (if a > b then a else b) = max b a := by split <;> omega
theorem min_if2 (a b : Int) : (if a < b then a else b) = min b a := by split <;> omega
theorem find_test (s : Sp) : (decide (s.1 < (0 : Int)) || decide (s.1 > s.2) || decide (s.2 > (17179869184 : Int))) = decide (s.1 < 0 ∨ s.1 > s.2 ∨ s.2 > 17179869184) := by
  by_cases h1 : s.1 < 0
  · rw [decide_eq_true h1, decide_eq_true (Or.inl h1), Bool.true_or, Bool.true_or]
  · by_cases h2 : s.1 > s.2
    · rw [decide_eq_true h2, decide_eq_true (Or.inr (Or.inl h2)), Bool.or_true, Bool.true_or]
    · by_cases h3 : s.2 > 17179869184
      · rw [decide_eq_true h3, decide_eq_true (Or.inr (Or.inr h3)), Bool.or_true]
      · rw [decide_eq_false h1, decide_eq_false h2, decide_eq_false h3, decide_eq_false (by omega)]; rfl
theorem find_in {m : List Rn} (hc : Chk m) (s : Sp) : In 0 17179869184 (fndS m 0 s) := In.of fun x hx => by
  have h := fndS_in m 0 s hc.goods x hx
  have := hc.tot
  exact ⟨by omega, by omega, by omega⟩
theorem find_norm {m : List Rn} (hc : Chk m) (s : Sp) : normS (fndS m 0 s) = (nf (fndS m 0 s), 0) := by
  have hl := fndS_len m 0 s
  have := hc.len
  unfold normS
  rw [if_neg (fun e => e (chkS_zero.2 ⟨by omega, find_in hc s⟩))]
/-- the span of a run, if it has points of the span -/
def fnd1 (r : Rn) (a : Int) (s : Sp) : List Sp := if max (lo r) s.1 < min (Go.AM.hi r + 1) s.2 then [(a + (if r.2.2 = true then Go.AM.hi r + 1 - min (Go.AM.hi r + 1) s.2 else max (lo r) s.1 - lo r), a + (if r.2.2 = true then Go.AM.hi r + 1 - min (Go.AM.hi r + 1) s.2 else max (lo r) s.1 - lo r) + min (Go.AM.hi r + 1) s.2 - max (lo r) s.1)] else []
theorem fndS_cons (r : Rn) (t : List Rn) (a : Int) (s : Sp) : fndS (r :: t) a s = fnd1 r a s ++ fndS t (a + r.2.1) s := rfl
theorem iso_Find_9 (k : Nat) (hk : 2100 ≤ k) (m : List Rn) (hc : Chk m) (s : Sp) (s0 : 0 ≤ s.1 ∧ s.1 ≤ 17179869184) (s1 : 0 ≤ s.2 ∧ s.2 ≤ 17179869184) : ∀ (d i j : Nat) (a : Int) (out : List Sp), i + d = m.length → d + 1 < j → 0 ≤ a → a ≤ (i : Int) * 17179869184 → out.length ≤ i → out ++ fndS (m.drop i) a s = fndS m 0 s →
    f_u31_9 k j a m (m.length : Int) (i : Int) s out = some (nf (fndS m 0 s), 0) := by
  intro d
  have hl := hc.len
  induction d with
  | zero =>
    intro i j a out hi hj h0 h1 ho he
    obtain ⟨j, rfl⟩ : ∃ q, j = q + 1 + 1 := ⟨j - 2, by omega⟩
    rw [f_u31_9, decide_eq_false (by omega : ¬ (i : Int) < (m.length : Int)), cond_false, f_u31_20]
    rw [List.drop_of_length_le (by omega)] at he
    rw [show fndS ([] : List Rn) a s = [] from rfl, List.append_nil] at he
    rw [he, span_Norm_s k hk, span_Norm_v k hk, find_norm hc]
    rfl
  | succ d ih =>
    intro i j a out hi hj h0 h1 ho he
    obtain ⟨j, rfl⟩ : ∃ q, j = q + 1 := ⟨j - 1, by omega⟩
    have hg : good (m.getD i T0.dflt) := hc.goods.mem _ (getD_mem' _ _ _ (by omega))
    rw [drop_cons' m i T0.dflt (by omega), fndS_cons, ← List.append_assoc] at he
    rw [f_u31_9, decide_eq_true (by omega : (i : Int) < (m.length : Int)), cond_true, if_pos ⟨by omega, by omega⟩, Int.toNat_natCast, iso_images_s k _ hg, iso_images_v k _ hg, Option.isSome_some, if_pos rfl, wrapS i (by omega)]
    generalize m.getD i T0.dflt = r at *
    obtain ⟨g1, g2, g3, g4, _⟩ := _root_.id hg
    obtain ⟨l1, l2, l3, l4⟩ := hg.lohi
    rw [show (spn r).1 = lo r from rfl, show (spn r).2 = Go.AM.hi r + 1 from rfl, max_if, min_if2, wrap_id (i := a + r.2.1) (by omega) (by omega), wrap_id (i := Go.AM.hi r + 1 - min (Go.AM.hi r + 1) s.2) (by omega) (by omega), wrap_id (i := max (lo r) s.1 - lo r) (by omega) (by omega)]
    unfold fnd1 at he
    by_cases h : max (lo r) s.1 < min (Go.AM.hi r + 1) s.2
    · rw [decide_eq_true h, cond_true]
      rw [if_pos h] at he
      rw [wrap_id (i := a + (Go.AM.hi r + 1 - min (Go.AM.hi r + 1) s.2)) (by omega) (by omega), wrap_id (i := a + (max (lo r) s.1 - lo r)) (by omega) (by omega)]
      rw [wrap_id (i := a + (Go.AM.hi r + 1 - min (Go.AM.hi r + 1) s.2) + min (Go.AM.hi r + 1) s.2) (by omega) (by omega), wrap_id (i := a + (max (lo r) s.1 - lo r) + min (Go.AM.hi r + 1) s.2) (by omega) (by omega)]
      rw [wrap_id (i := a + (Go.AM.hi r + 1 - min (Go.AM.hi r + 1) s.2) + min (Go.AM.hi r + 1) s.2 - max (lo r) s.1) (by omega) (by omega), wrap_id (i := a + (max (lo r) s.1 - lo r) + min (Go.AM.hi r + 1) s.2 - max (lo r) s.1) (by omega) (by omega)]
      cases hb : r.2.2
      · rw [hb] at he
        rw [if_neg Bool.false_ne_true] at he
        rw [cond_false, if_pos (by rw [List.length_singleton]; omega)]
        exact ih (i + 1) j _ _ (by omega) (by omega) (by omega) (by omega) (by rw [List.length_append, List.length_singleton]; omega) he
      · rw [hb] at he
        rw [if_pos rfl] at he
        rw [cond_true, if_pos (by rw [List.length_singleton]; omega)]
        exact ih (i + 1) j _ _ (by omega) (by omega) (by omega) (by omega) (by rw [List.length_append, List.length_singleton]; omega) he
    · rw [decide_eq_false h, cond_false]
      rw [if_neg h, List.append_nil] at he
      exact ih (i + 1) j _ _ (by omega) (by omega) (by omega) (by omega) (by omega) he
theorem iso_Find_s (k : Nat) (hk : 2100 ≤ k) (m : List Rn) (s : Sp) : f_u31 k m s = some (findS m s) := by
  unfold f_u31 findS
  rw [iso_Check_s k (by omega), iso_Check_v k (by omega), Option.isSome_some, if_pos rfl, find_test]
  by_cases h1 : chk m = 0
  · have hc := chk_zero.1 h1
    have hl := hc.len
    rw [show (chk m != 0) = false by simp [h1], cond_false, if_neg (fun h : chk m ≠ 0 => h h1)]
    by_cases h2 : s.1 < 0 ∨ s.1 > s.2 ∨ s.2 > 17179869184
    · rw [decide_eq_true h2, cond_true, if_pos h2]
    · rw [decide_eq_false h2, cond_false, if_neg h2]
      exact iso_Find_9 k hk m hc s ⟨by omega, by omega⟩ ⟨by omega, by omega⟩ m.length 0 k 0 [] (by omega) (by omega) (by omega) (by omega) (by simp) rfl
  · rw [show (chk m != 0) = true from bne_iff_ne.2 h1, cond_true, if_pos h1]
theorem iso_Find_v (k : Nat) (hk : 2100 ≤ k) (m : List Rn) (s : Sp) : v_u31 k m s = findS m s := by
  unfold v_u31; rw [iso_Find_s k hk]; rfl
end Go.AM
namespace Go.AM
open Go Go.Proofs
noncomputable section
abbrev R_u19 : Type := List (T3).T × Int
def res_u19 (r : R_u19) : AV := .tup [.r (.ro T3 r.1), .r (.v (.int .i64 r.2))]
def bo_u19 (l_ : List (T2).T) (web_ : T6.T) (id_ : Int) (r_ : T3.T) (r : R_u19) : List (Nat × Blk) := []
def args_u19 (l_ : List (T2).T) (web_ : T6.T) (id_ : Int) (r_ : T3.T) : List AV := [.r (.ro T2 l_), .agg (rvs (enc T6 web_)), .r (.v (.int .i64 id_)), .agg (rvs (enc T3 r_))]
def bin_u19 (l_ : List (T2).T) (web_ : T6.T) (id_ : Int) (r_ : T3.T) : List Blk := []
abbrev C_u19 (l_ : List (T2).T) (web_ : T6.T) (id_ : Int) (r_ : T3.T) (r : R_u19) : Prop := CC Try.prog 12 (args_u19 l_ web_ id_ r_) (bin_u19 l_ web_ id_ r_) (res_u19 r) (bo_u19 l_ web_ id_ r_ r)
def st_u19_25 (y0 : Int) (y1 : Int) (y2 : List (T9).T) (y3 : Int) (y4 : Int) (y5 : T1.T) (y6 : List (T3).T) : St := ⟨mkS 119 [(10, .ptr 1000000 0 0), (16, .r (.v (.int .i64 y0))), (17, .r (.v (.int .i64 y1))), (18, .own 1000001 0), (95, .r (.ro T9 y2)), (96, .r (.v (.int .i64 y3))), (97, .r (.v (.int .i64 y4)))], [(1000000, 0, .var 68 (rvs (enc T1 y5))), (1000001, 0, .row 40 T3 y6)]⟩
def f_u19_25 (k : Nat) : Nat → Int → Int → List (T9).T → Int → Int → T1.T → List (T3).T → Option R_u19
  | 0, _, _, _, _, _, _, _ => none
  | j + 1, y0, y1, y2, y3, y4, y5, y6 =>
  bif (decide (y4 < y3)) then
  if (0 ≤ y4) ∧ (y4 < (↑y2.length : Int)) then
  if ((y6.length + [(IntKind.i64.wrap (y5.1 + y0), IntKind.i64.wrap (y5.1 + y1), y2.getD y4.toNat T9.dflt)].length) * (32 : Nat) ≤ (140737488355328 : Nat)) then
  f_u19_25 k j y0 y1 y2 y3 ((IntKind.i64.wrap (y4 + 1))) y5 ((y6 ++ [(IntKind.i64.wrap (y5.1 + y0), IntKind.i64.wrap (y5.1 + y1), y2.getD y4.toNat T9.dflt)]))
  else none
  else none
  else
  some ((y6, 0))
def f_u19 (k : Nat) (l_ : List (T2).T) (web_ : T6.T) (id_ : Int) (r_ : T3.T) : Option R_u19 :=
  if ((f_u4 k l_ web_ id_).isSome = true) then
  bif ((v_u4 k l_ web_ id_).2 != (0 : Int)) then
  some (([], (v_u4 k l_ web_ id_).2))
  else
  if ((f_u59 k r_).isSome = true) then
  bif (v_u59 k r_ != (0 : Int)) then
  some (([], v_u59 k r_))
  else
  if ((f_u33 k (v_u4 k l_ web_ id_).1.2.2.2).isSome = true) then
  bif ((v_u33 k (v_u4 k l_ web_ id_).1.2.2.2).2 != (0 : Int)) then
  some (([], (v_u33 k (v_u4 k l_ web_ id_).1.2.2.2).2))
  else
  bif (decide (r_.2.1 > (v_u4 k l_ web_ id_).1.2.1)) then
  some (([], 20))
  else
  bif (decide (r_.2.2.2 > (v_u33 k (v_u4 k l_ web_ id_).1.2.2.2).1)) then
  some (([], 21))
  else
  if ((f_u34 k (v_u4 k l_ web_ id_).1.2.2.2 r_.2.2).isSome = true) then
  bif ((v_u34 k (v_u4 k l_ web_ id_).1.2.2.2 r_.2.2).2 != (0 : Int)) then
  some (([], (v_u34 k (v_u4 k l_ web_ id_).1.2.2.2 r_.2.2).2))
  else
  if ((f_u32 k (v_u34 k (v_u4 k l_ web_ id_).1.2.2.2 r_.2.2).1).isSome = true) then
  bif ((v_u32 k (v_u34 k (v_u4 k l_ web_ id_).1.2.2.2 r_.2.2).1).2 != (0 : Int)) then
  some (([], (v_u32 k (v_u34 k (v_u4 k l_ web_ id_).1.2.2.2 r_.2.2).1).2))
  else
  bif (v_u4 k l_ web_ id_).1.2.2.1 then
  f_u19_25 k k ((IntKind.i64.wrap ((v_u4 k l_ web_ id_).1.2.1 - r_.2.1))) ((IntKind.i64.wrap ((v_u4 k l_ web_ id_).1.2.1 - r_.1))) ((v_u32 k (v_u34 k (v_u4 k l_ web_ id_).1.2.2.2 r_.2.2).1).1) ((↑ (v_u32 k (v_u34 k (v_u4 k l_ web_ id_).1.2.2.2 r_.2.2).1).1.length : Int)) 0 ((v_u4 k l_ web_ id_).1) ([])
  else
  f_u19_25 k k r_.1 r_.2.1 ((v_u32 k (v_u34 k (v_u4 k l_ web_ id_).1.2.2.2 r_.2.2).1).1) ((↑ (v_u32 k (v_u34 k (v_u4 k l_ web_ id_).1.2.2.2 r_.2.2).1).1.length : Int)) 0 ((v_u4 k l_ web_ id_).1) ([])
  else none
  else none
  else none
  else none
  else none
def v_u19 (k : Nat) (l_ : List (T2).T) (web_ : T6.T) (id_ : Int) (r_ : T3.T) : R_u19 := (f_u19 k l_ web_ id_ r_).getD ([], 0)
def ke_u19 (k : Nat) : Ke := (12, fun xs => match xs with
  | [_, _, _, _] => some [false, false, false, false]
  | _ => none, fun xs bs => match xs, bs with
  | [.r (.ro tl__ ql_), .agg qweb_, .r (.v (.int .i64 id_)), .agg qr_], [] => (castL tl__ T2 ql_).bind fun l_ => (decS [] T6 qweb_).bind fun web_ => (decS [] T3 qr_).bind fun r_ => some (.one (res_u19 (v_u19 k l_ web_ id_ r_), bo_u19 l_ web_ id_ r_ (v_u19 k l_ web_ id_ r_)))
  | _, _ => none)
def K_u19 (k : Nat) : Calld := mkK [ke_u33 k, ke_u32 k, ke_u4 k, ke_u59 k, ke_u34 k]
def cs_u19 : List (Nat × List Cmd) := [(25, [.row 18 40 T3, .autoB [10, 16, 17, 18, 95, 96, 97] false []])]
abbrev E_u19 (l_ : List (T2).T) (web_ : T6.T) (id_ : Int) (r_ : T3.T) (todo : List Item) (st : St) (o : Option R_u19) : Prop := ∀ r, o = some r → Ev Try.prog Try.f12 0 todo st (res_u19 r) (bo_u19 l_ web_ id_ r_ r)
theorem ev_u19 (k : Nat) (l_ : List (T2).T) (web_ : T6.T) (id_ : Int) (r_ : T3.T) : ∀ j, (∀ (y0 : Int) (y1 : Int) (y2 : List (T9).T) (y3 : Int) (y4 : Int) (y5 : T1.T) (y6 : List (T3).T), E_u19 l_ web_ id_ r_ (placeAt Try.f12 25) (st_u19_25 y0 y1 y2 y3 y4 y5 y6) (f_u19_25 k j y0 y1 y2 y3 y4 y5 y6))
  | 0 => fun _ _ _ _ _ _ _ _ h => (nomatch h)
  | j + 1 => by
    have ih := @ev_u19 k l_ web_ id_ r_ j
    · intro y0 y1 y2 y3 y4 y5 y6 r h
      rw [f_u19_25] at h
      exact go (K_u19 k) [] cs_u19 [.frz 8 false (RTy.list T3), .autoB [8, 9] true []] (gT h (fun c h => gN2 h fun h => gN1 h id fun h => gC h 25 (ih _ _ _ _ _ _ _ _)) fun c h => gL h) (by kernel_rfl)
theorem of_u19 (k : Nat) (l_ : List (T2).T) (web_ : T6.T) (id_ : Int) (r_ : T3.T) (r : R_u19) (h : f_u19 k l_ web_ id_ r_ = some r) : C_u19 l_ web_ id_ r_ r := by
  refine CC.of (fn := Try.f12) (by kernel_rfl) (by kernel_rfl) (by kernel_rfl) (by kernel_rfl) ?_
  unfold f_u19 at h
  exact go (K_u19 k) [] cs_u19 [.frz 8 false (RTy.list T3), .autoB [8, 9] true []] (gN1 h (fun q => cc_u4 q) fun h => gT h (fun c h => gL h) fun c h => gN1 h (fun q => cc_u59 q) fun h => gT h (fun c h => gL h) fun c h => gN1 h (fun q => cc_u33 q) fun h => gT h (fun c h => gL h) fun c h => gT h (fun c h => gL h) fun c h => gT h (fun c h => gL h) fun c h => gN1 h (fun q => cc_u34 q) fun h => gT h (fun c h => gL h) fun c h => gN1 h (fun q => cc_u32 q) fun h => gT h (fun c h => gL h) fun c h => gT h (fun c h => gC h 25 ((ev_u19 k l_ web_ id_ r_ k) _ _ _ _ _ _ _ _)) fun c h => gC h 25 ((ev_u19 k l_ web_ id_ r_ k) _ _ _ _ _ _ _ _)) (by kernel_rfl)
theorem cc_u19 {k : Nat} {l_ : List (T2).T} {web_ : T6.T} {id_ : Int} {r_ : T3.T} (h : (f_u19 k l_ web_ id_ r_).isSome = true) : C_u19 l_ web_ id_ r_ (v_u19 k l_ web_ id_ r_) := ccG (Φ := C_u19 l_ web_ id_ r_) h (of_u19 k l_ web_ id_ r_)

end
/-! ### back on the web -/
def backS (l : List Ro) (W L id : Int) (r : Rc4) : List Rc4 × Int :=
  if (cutFull l W L id).2 ≠ 0 then ([], (cutFull l W L id).2)
  else if rectE r ≠ 0 then ([], rectE r)
  else if r.2.1 > (cutFull l W L id).1.2.1 then ([], 20)
  else if r.2.2.2 > lenS (cutFull l W L id).1.2.2.2 then ([], 21)
  else if (imageS (partS (cutFull l W L id).1.2.2.2 r.2.2).1).2 ≠ 0 then ([], (imageS (partS (cutFull l W L id).1.2.2.2 r.2.2).1).2)
  else ((imageS (partS (cutFull l W L id).1.2.2.2 r.2.2).1).1.map fun s => ((if (cutFull l W L id).1.2.2.1 = true then (cutFull l W L id).1.1 + (cutFull l W L id).1.2.1 - r.2.1 else (cutFull l W L id).1.1 + r.1), (if (cutFull l W L id).1.2.2.1 = true then (cutFull l W L id).1.1 + (cutFull l W L id).1.2.1 - r.1 else (cutFull l W L id).1.1 + r.2.1), s), 0)
/-- a cut without error -/
theorem cut_in {l : List Ro} {W L id : Int} (h : (cutFull l W L id).2 = 0) : Reg l W L ∧ CutIn l W L id (cutFull l W L id).1 512 := by
  have hz : errS l W L id = 0 := by
    unfold cutFull at h
    by_cases h2 : errS l W L id = 0
    · exact h2
    · rw [if_pos h2] at h; exact absurd h h2
  obtain ⟨reg, kn⟩ := errS_zero.1 hz
  have hC : cutFull l W L id = cutS l W L 512 id := by unfold cutFull; rw [if_neg (fun h => h hz)]
  refine ⟨reg, cutS_in reg 512 id _ (reg.anc kn) ?_⟩
  rw [← hC, ← h]
theorem Back_25 (k : Nat) (a b : Int) (s : List Sp) (hs : s.length ≤ 100000) (c : Ch) (ha : IntKind.i64.wrap (c.1 + a) = c.1 + a) (hb : IntKind.i64.wrap (c.1 + b) = c.1 + b) : ∀ (d i j : Nat) (out : List Rc4), i + d = s.length → d < j → out.length ≤ i →
    f_u19_25 k j a b s (s.length : Int) (i : Int) c out = some (out ++ (s.drop i).map (fun x => (c.1 + a, c.1 + b, x)), 0) := by
  intro d
  induction d with
  | zero =>
    intro i j out hi hj ho
    obtain ⟨j, rfl⟩ : ∃ q, j = q + 1 := ⟨j - 1, by omega⟩
    rw [f_u19_25, decide_eq_false (by omega : ¬ (i : Int) < (s.length : Int)), cond_false, List.drop_of_length_le (by omega), List.map_nil, List.append_nil]
  | succ d ih =>
    intro i j out hi hj ho
    obtain ⟨j, rfl⟩ : ∃ q, j = q + 1 := ⟨j - 1, by omega⟩
    rw [f_u19_25, decide_eq_true (by omega : (i : Int) < (s.length : Int)), cond_true, if_pos ⟨by omega, by omega⟩, Int.toNat_natCast, wrapS i (by omega), ha, hb, if_pos (by rw [List.length_singleton]; omega), ih (i + 1) j _ (by omega) (by omega) (by rw [List.length_append, List.length_singleton]; omega), drop_cons' s i T9.dflt (by omega), List.map_cons, List.append_assoc]
    rfl
theorem image_len {m : List Rn} (h : (imageS m).2 = 0) : (imageS m).1.length ≤ 256 := by
  unfold imageS at *
  by_cases h1 : chk m = 0
  · have hc := chk_zero.1 h1
    rw [if_neg (fun h : chk m ≠ 0 => h h1)]
    have := nf_len (spn_in hc.goods)
    rw [List.length_map] at this
    have := hc.len
    show (nf (m.map spn)).length ≤ 256
    omega
  · rw [if_pos h1] at h; exact absurd h h1
theorem inherit_Back_s (k : Nat) (hk : 300000 ≤ k) (l : List Ro) (web : Int × Int) (id : Int) (r : Rc4) : f_u19 k l web id r = some (backS l web.1 web.2 id r) := by
  unfold f_u19 backS
  rw [fam_Cut_s k hk, fam_Cut_v k hk, rect_Check_s, rect_Check_v, Option.isSome_some, if_pos rfl, Option.isSome_some, if_pos rfl]
  by_cases h1 : (cutFull l web.1 web.2 id).2 = 0
  · obtain ⟨reg, ci⟩ := cut_in h1
    generalize (cutFull l web.1 web.2 id) = o at *
    obtain ⟨c1, c2, c3, c4, c5, _⟩ := ci
    have hw := reg.w
    rw [show (o.2 != 0) = false by simp [h1], cond_false, if_neg (fun h : o.2 ≠ 0 => h h1)]
    by_cases h2 : rectE r = 0
    · obtain ⟨r1, r2, r3, r4, r5, r6⟩ := rectE_zero h2
      rw [show (rectE r != 0) = false by simp [h2], cond_false, if_neg (fun h : rectE r ≠ 0 => h h2), iso_Length_s k (by omega) _ c4, iso_Length_v k (by omega) _ c4, Option.isSome_some, if_pos rfl]
      show (bif decide (r.2.1 > o.1.2.1) then some (([] : List Rc4), (20 : Int)) else bif decide (r.2.2.2 > lenS o.1.2.2.2) then some ([], 21) else _) = _
      by_cases h3 : r.2.1 > o.1.2.1
      · rw [decide_eq_true h3, if_pos h3]; rfl
      · rw [decide_eq_false h3, if_neg h3, cond_false]
        by_cases h4 : r.2.2.2 > lenS o.1.2.2.2
        · rw [decide_eq_true h4, if_pos h4]; rfl
        · rw [decide_eq_false h4, if_neg h4, cond_false, iso_Part_s k (by omega), iso_Part_v k (by omega), iso_Image_s k (by omega), iso_Image_v k (by omega)]
          have hp : (partS o.1.2.2.2 r.2.2).2 = 0 := by
            unfold partS
            rw [if_neg (fun h => h (chk_zero.2 c4)), if_neg (by omega)]
          rw [Option.isSome_some, if_pos rfl, hp]
          show (if (some (imageS (partS o.1.2.2.2 r.2.2).1)).isSome = true then (bif ((imageS (partS o.1.2.2.2 r.2.2).1).2 != 0) then _ else _) else none) = _
          rw [Option.isSome_some, if_pos rfl]
          by_cases h5 : (imageS (partS o.1.2.2.2 r.2.2).1).2 = 0
          · have hl := image_len h5
            have hi : ¬ ((imageS (partS o.1.2.2.2 r.2.2).1).2 ≠ 0) := fun h => h h5
            generalize imageS (partS o.1.2.2.2 r.2.2).1 = im at *
            rw [show (im.2 != 0) = false by simp [h5], cond_false, if_neg hi]
            show (bif o.1.2.2.1 then f_u19_25 k k (IntKind.i64.wrap (o.1.2.1 - r.2.1)) (IntKind.i64.wrap (o.1.2.1 - r.1)) im.1 (im.1.length : Int) 0 o.1 [] else f_u19_25 k k r.1 r.2.1 im.1 (im.1.length : Int) 0 o.1 []) = _
            rw [wrap_id (i := o.1.2.1 - r.2.1) (by omega) (by omega), wrap_id (i := o.1.2.1 - r.1) (by omega) (by omega)]
            cases ht : o.1.2.2.1
            · rw [cond_false]
              have := Back_25 k r.1 r.2.1 im.1 (by omega) o.1 (wrap_id (by omega) (by omega)) (wrap_id (by omega) (by omega)) im.1.length 0 k [] (by omega) (by omega) (by simp)
              refine this.trans ?_
              rfl
            · rw [cond_true]
              have := Back_25 k (o.1.2.1 - r.2.1) (o.1.2.1 - r.1) im.1 (by omega) o.1 (wrap_id (by omega) (by omega)) (wrap_id (by omega) (by omega)) im.1.length 0 k [] (by omega) (by omega) (by simp)
              refine this.trans ?_
              rw [show o.1.1 + (o.1.2.1 - r.2.1) = o.1.1 + o.1.2.1 - r.2.1 by omega, show o.1.1 + (o.1.2.1 - r.1) = o.1.1 + o.1.2.1 - r.1 by omega]
              rfl
          · rw [bne_iff_ne.2 h5, if_pos h5]; rfl
    · rw [bne_iff_ne.2 h2, if_pos h2]; rfl
  · rw [bne_iff_ne.2 h1, if_pos h1]; rfl
theorem inherit_Back_v (k : Nat) (hk : 300000 ≤ k) (l : List Ro) (web : Int × Int) (id : Int) (r : Rc4) : v_u19 k l web id r = backS l web.1 web.2 id r := by
  unfold v_u19; rw [inherit_Back_s k hk]; rfl
end Go.AM
namespace Go.AM
open Go Go.Proofs
noncomputable section
abbrev R_u24 : Type := Int × Int
def res_u24 (r : R_u24) : AV := .tup [.r (.v (.int .i64 r.1)), .r (.v (.int .i64 r.2))]
def bo_u24 (c_ : T1.T) (left_ : Int) (right_ : Int) (r : R_u24) : List (Nat × Blk) := []
def args_u24 (c_ : T1.T) (left_ : Int) (right_ : Int) : List AV := [.agg (rvs (enc T1 c_)), .r (.v (.int .i64 left_)), .r (.v (.int .i64 right_))]
def bin_u24 (c_ : T1.T) (left_ : Int) (right_ : Int) : List Blk := []
abbrev C_u24 (c_ : T1.T) (left_ : Int) (right_ : Int) (r : R_u24) : Prop := CC Try.prog 28 (args_u24 c_ left_ right_) (bin_u24 c_ left_ right_) (res_u24 r) (bo_u24 c_ left_ right_ r)
def f_u24 (k : Nat) (c_ : T1.T) (left_ : Int) (right_ : Int) : Option R_u24 :=
  bif c_.2.2.1 then
  some ((IntKind.i64.wrap (c_.2.1 - IntKind.i64.wrap (right_ - c_.1)), IntKind.i64.wrap (c_.2.1 - IntKind.i64.wrap (left_ - c_.1))))
  else
  some ((IntKind.i64.wrap (left_ - c_.1), IntKind.i64.wrap (right_ - c_.1)))
def v_u24 (k : Nat) (c_ : T1.T) (left_ : Int) (right_ : Int) : R_u24 := (f_u24 k c_ left_ right_).getD (0, 0)
def ke_u24 (k : Nat) : Ke := (28, fun xs => match xs with
  | [_, _, _] => some [false, false, false]
  | _ => none, fun xs bs => match xs, bs with
  | [.agg qc_, .r (.v (.int .i64 left_)), .r (.v (.int .i64 right_))], [] => (decS [] T1 qc_).bind fun c_ => some (.one (res_u24 (v_u24 k c_ left_ right_), bo_u24 c_ left_ right_ (v_u24 k c_ left_ right_)))
  | _, _ => none)
theorem of_u24 (k : Nat) (c_ : T1.T) (left_ : Int) (right_ : Int) (r : R_u24) (h : f_u24 k c_ left_ right_ = some r) : C_u24 c_ left_ right_ r := by
  refine CC.of (fn := Try.f28) (by kernel_rfl) (by kernel_rfl) (by kernel_rfl) (by kernel_rfl) ?_
  unfold f_u24 at h
  exact go (mkK []) [] [] [.autoB [6, 7] true []] (gT h (fun c h => gL h) fun c h => gL h) (by kernel_rfl)
theorem cc_u24 {k : Nat} {c_ : T1.T} {left_ : Int} {right_ : Int} (h : (f_u24 k c_ left_ right_).isSome = true) : C_u24 c_ left_ right_ (v_u24 k c_ left_ right_) := ccG (Φ := C_u24 c_ left_ right_) h (of_u24 k c_ left_ right_)
abbrev R_u22 : Type := List (T4).T × Int
def res_u22 (r : R_u22) : AV := .tup [.r (.ro T4 r.1), .r (.v (.int .i64 r.2))]
def bo_u22 (l_ : List (T2).T) (web_ : T6.T) (spots_ : List (T4).T) (id_ : Int) (r : R_u22) : List (Nat × Blk) := []
def args_u22 (l_ : List (T2).T) (web_ : T6.T) (spots_ : List (T4).T) (id_ : Int) : List AV := [.r (.ro T2 l_), .agg (rvs (enc T6 web_)), .r (.ro T4 spots_), .r (.v (.int .i64 id_))]
def bin_u22 (l_ : List (T2).T) (web_ : T6.T) (spots_ : List (T4).T) (id_ : Int) : List Blk := []
abbrev C_u22 (l_ : List (T2).T) (web_ : T6.T) (spots_ : List (T4).T) (id_ : Int) (r : R_u22) : Prop := CC Try.prog 9 (args_u22 l_ web_ spots_ id_) (bin_u22 l_ web_ spots_ id_) (res_u22 r) (bo_u22 l_ web_ spots_ id_ r)
def st_u22_9 (y0 : List (T4).T) (y1 : Int) (y2 : Int) (y3 : T1.T) (y4 : List (T4).T) : St := ⟨mkS 111 [(10, .ptr 1000000 0 0), (13, .own 1000001 0), (37, .r (.ro T4 y0)), (38, .r (.v (.int .i64 y1))), (39, .r (.v (.int .i64 y2)))], [(1000000, 0, .var 68 (rvs (enc T1 y3))), (1000001, 0, .row 44 T4 y4)]⟩
def st_u22_18 (y0 : Int) (y1 : Int) (y2 : List (T4).T) (y3 : Int) (y4 : Int) (y5 : List (T9).T) (y6 : Int) (y7 : Int) (y8 : T1.T) (y9 : List (T4).T) (y10 : T4.T) : St := ⟨mkS 111 [(10, .ptr 1000000 0 0), (13, .own 1000001 0), (15, .ptr 1000002 0 0), (16, .r (.v (.int .i64 y0))), (17, .r (.v (.int .i64 y1))), (37, .r (.ro T4 y2)), (38, .r (.v (.int .i64 y3))), (39, .r (.v (.int .i64 y4))), (84, .r (.ro T9 y5)), (85, .r (.v (.int .i64 y6))), (86, .r (.v (.int .i64 y7)))], [(1000000, 0, .var 68 (rvs (enc T1 y8))), (1000001, 0, .row 44 T4 y9), (1000002, 0, .var 44 (rvs (enc T4 y10)))]⟩
mutual
def f_u22_9 (k : Nat) : Nat → List (T4).T → Int → Int → T1.T → List (T4).T → Option R_u22
  | 0, _, _, _, _, _ => none
  | j + 1, y0, y1, y2, y3, y4 =>
  bif (decide (y2 < y1)) then
  if (0 ≤ y2) ∧ (y2 < (↑y0.length : Int)) then
  bif (decide ((if y3.1 > (y0.getD y2.toNat T4.dflt).1.1 then y3.1 else (y0.getD y2.toNat T4.dflt).1.1) ≥ if IntKind.i64.wrap (y3.1 + y3.2.1) < (y0.getD y2.toNat T4.dflt).1.2.1 then IntKind.i64.wrap (y3.1 + y3.2.1) else (y0.getD y2.toNat T4.dflt).1.2.1)) then
  f_u22_9 k j y0 y1 ((IntKind.i64.wrap (y2 + 1))) y3 y4
  else
  if ((f_u24 k y3 (if y3.1 > (y0.getD y2.toNat T4.dflt).1.1 then y3.1 else (y0.getD y2.toNat T4.dflt).1.1) (if IntKind.i64.wrap (y3.1 + y3.2.1) < (y0.getD y2.toNat T4.dflt).1.2.1 then IntKind.i64.wrap (y3.1 + y3.2.1) else (y0.getD y2.toNat T4.dflt).1.2.1)).isSome = true) then
  if ((f_u31 k y3.2.2.2 (y0.getD y2.toNat T4.dflt).1.2.2).isSome = true) then
  bif ((v_u31 k y3.2.2.2 (y0.getD y2.toNat T4.dflt).1.2.2).2 != (0 : Int)) then
  some (([], (v_u31 k y3.2.2.2 (y0.getD y2.toNat T4.dflt).1.2.2).2))
  else
  f_u22_18 k j ((v_u24 k y3 (if y3.1 > (y0.getD y2.toNat T4.dflt).1.1 then y3.1 else (y0.getD y2.toNat T4.dflt).1.1) (if IntKind.i64.wrap (y3.1 + y3.2.1) < (y0.getD y2.toNat T4.dflt).1.2.1 then IntKind.i64.wrap (y3.1 + y3.2.1) else (y0.getD y2.toNat T4.dflt).1.2.1)).1) ((v_u24 k y3 (if y3.1 > (y0.getD y2.toNat T4.dflt).1.1 then y3.1 else (y0.getD y2.toNat T4.dflt).1.1) (if IntKind.i64.wrap (y3.1 + y3.2.1) < (y0.getD y2.toNat T4.dflt).1.2.1 then IntKind.i64.wrap (y3.1 + y3.2.1) else (y0.getD y2.toNat T4.dflt).1.2.1)).2) y0 y1 y2 ((v_u31 k y3.2.2.2 (y0.getD y2.toNat T4.dflt).1.2.2).1) ((↑ (v_u31 k y3.2.2.2 (y0.getD y2.toNat T4.dflt).1.2.2).1.length : Int)) 0 y3 y4 ((y0.getD y2.toNat T4.dflt))
  else none
  else none
  else none
  else
  bif (decide ((↑y4.length : Int) > (128 : Int))) then
  some (([], 8))
  else
  some ((y4, 0))
def f_u22_18 (k : Nat) : Nat → Int → Int → List (T4).T → Int → Int → List (T9).T → Int → Int → T1.T → List (T4).T → T4.T → Option R_u22
  | 0, _, _, _, _, _, _, _, _, _, _, _ => none
  | j + 1, y0, y1, y2, y3, y4, y5, y6, y7, y8, y9, y10 =>
  bif (decide (y7 < y6)) then
  if (0 ≤ y7) ∧ (y7 < (↑y5.length : Int)) then
  if ((y9.length + [((y0, y1, y5.getD y7.toNat T9.dflt), y10.2)].length) * (48 : Nat) ≤ (140737488355328 : Nat)) then
  f_u22_18 k j y0 y1 y2 y3 y4 y5 y6 ((IntKind.i64.wrap (y7 + 1))) y8 ((y9 ++ [((y0, y1, y5.getD y7.toNat T9.dflt), y10.2)])) y10
  else none
  else none
  else
  f_u22_9 k j y2 y3 ((IntKind.i64.wrap (y4 + 1))) y8 y9
end
def f_u22 (k : Nat) (l_ : List (T2).T) (web_ : T6.T) (spots_ : List (T4).T) (id_ : Int) : Option R_u22 :=
  if ((f_u4 k l_ web_ id_).isSome = true) then
  bif ((v_u4 k l_ web_ id_).2 != (0 : Int)) then
  some (([], (v_u4 k l_ web_ id_).2))
  else
  if ((f_u1 k spots_).isSome = true) then
  bif (v_u1 k spots_ != (0 : Int)) then
  some (([], v_u1 k spots_))
  else
  f_u22_9 k k spots_ ((↑spots_.length : Int)) 0 ((v_u4 k l_ web_ id_).1) ([])
  else none
  else none
def v_u22 (k : Nat) (l_ : List (T2).T) (web_ : T6.T) (spots_ : List (T4).T) (id_ : Int) : R_u22 := (f_u22 k l_ web_ spots_ id_).getD ([], 0)
def ke_u22 (k : Nat) : Ke := (9, fun xs => match xs with
  | [_, _, _, _] => some [false, false, false, false]
  | _ => none, fun xs bs => match xs, bs with
  | [.r (.ro tl__ ql_), .agg qweb_, .r (.ro tspots__ qspots_), .r (.v (.int .i64 id_))], [] => (castL tl__ T2 ql_).bind fun l_ => (decS [] T6 qweb_).bind fun web_ => (castL tspots__ T4 qspots_).bind fun spots_ => some (.one (res_u22 (v_u22 k l_ web_ spots_ id_), bo_u22 l_ web_ spots_ id_ (v_u22 k l_ web_ spots_ id_)))
  | _, _ => none)
def K_u22 (k : Nat) : Calld := mkK [ke_u4 k, ke_u1 k, ke_u24 k, ke_u31 k]
def cs_u22 : List (Nat × List Cmd) := [(9, [.row 13 44 T4, .autoB [10, 13, 37, 38, 39] false []]), (18, [.row 13 44 T4, .autoB [10, 13, 15, 16, 17, 37, 38, 39, 84, 85, 86] false []])]
abbrev E_u22 (l_ : List (T2).T) (web_ : T6.T) (spots_ : List (T4).T) (id_ : Int) (todo : List Item) (st : St) (o : Option R_u22) : Prop := ∀ r, o = some r → Ev Try.prog Try.f9 0 todo st (res_u22 r) (bo_u22 l_ web_ spots_ id_ r)
theorem ev_u22 (k : Nat) (l_ : List (T2).T) (web_ : T6.T) (spots_ : List (T4).T) (id_ : Int) : ∀ j, (∀ (y0 : List (T4).T) (y1 : Int) (y2 : Int) (y3 : T1.T) (y4 : List (T4).T), E_u22 l_ web_ spots_ id_ (placeAt Try.f9 9) (st_u22_9 y0 y1 y2 y3 y4) (f_u22_9 k j y0 y1 y2 y3 y4)) ∧ (∀ (y0 : Int) (y1 : Int) (y2 : List (T4).T) (y3 : Int) (y4 : Int) (y5 : List (T9).T) (y6 : Int) (y7 : Int) (y8 : T1.T) (y9 : List (T4).T) (y10 : T4.T), E_u22 l_ web_ spots_ id_ (placeAt Try.f9 18) (st_u22_18 y0 y1 y2 y3 y4 y5 y6 y7 y8 y9 y10) (f_u22_18 k j y0 y1 y2 y3 y4 y5 y6 y7 y8 y9 y10))
  | 0 => ⟨fun _ _ _ _ _ _ h => (nomatch h), fun _ _ _ _ _ _ _ _ _ _ _ _ h => (nomatch h)⟩
  | j + 1 => by
    have ih := @ev_u22 k l_ web_ spots_ id_ j
    refine ⟨?_, ?_⟩
    · intro y0 y1 y2 y3 y4 r h
      rw [f_u22_9] at h
      exact go (K_u22 k) [] cs_u22 [.frz 8 false (RTy.list T4), .autoB [8, 9] true []] (gT h (fun c h => gN2 h fun h => gT h (fun c h => gC h 9 (ih.1 _ _ _ _ _ _)) fun c h => gN1 h (fun q => cc_u24 q) fun h => gN1 h (fun q => cc_u31 q) fun h => gT h (fun c h => gL h) fun c h => gC h 18 (ih.2 _ _ _ _ _ _ _ _ _ _ _ _)) fun c h => gT h (fun c h => gL h) fun c h => gL h) (by kernel_rfl)
    · intro y0 y1 y2 y3 y4 y5 y6 y7 y8 y9 y10 r h
      rw [f_u22_18] at h
      exact go (K_u22 k) [] cs_u22 [.frz 8 false (RTy.list T4), .autoB [8, 9] true []] (gT h (fun c h => gN2 h fun h => gN1 h id fun h => gC h 18 (ih.2 _ _ _ _ _ _ _ _ _ _ _ _)) fun c h => gC h 9 (ih.1 _ _ _ _ _ _)) (by kernel_rfl)
theorem of_u22 (k : Nat) (l_ : List (T2).T) (web_ : T6.T) (spots_ : List (T4).T) (id_ : Int) (r : R_u22) (h : f_u22 k l_ web_ spots_ id_ = some r) : C_u22 l_ web_ spots_ id_ r := by
  refine CC.of (fn := Try.f9) (by kernel_rfl) (by kernel_rfl) (by kernel_rfl) (by kernel_rfl) ?_
  unfold f_u22 at h
  exact go (K_u22 k) [] cs_u22 [.frz 8 false (RTy.list T4), .autoB [8, 9] true []] (gN1 h (fun q => cc_u4 q) fun h => gT h (fun c h => gL h) fun c h => gN1 h (fun q => cc_u1 q) fun h => gT h (fun c h => gL h) fun c h => gC h 9 ((ev_u22 k l_ web_ spots_ id_ k).1 _ _ _ _ _ _)) (by kernel_rfl)
theorem cc_u22 {k : Nat} {l_ : List (T2).T} {web_ : T6.T} {spots_ : List (T4).T} {id_ : Int} (h : (f_u22 k l_ web_ spots_ id_).isSome = true) : C_u22 l_ web_ spots_ id_ (v_u22 k l_ web_ spots_ id_) := ccG (Φ := C_u22 l_ web_ spots_ id_) h (of_u22 k l_ web_ spots_ id_)

end
/-! ### defects of rolls -/
def acL (c : Ch) (a b : Int) : Int := if c.2.2.1 = true then c.2.1 - (b - c.1) else a - c.1
def acR (c : Ch) (a b : Int) : Int := if c.2.2.1 = true then c.2.1 - (a - c.1) else b - c.1
def fndl (c : Ch) (x : Spt) : List Spt := if max x.1.1 c.1 ≥ min x.1.2.1 (c.1 + c.2.1) then [] else
  (findS c.2.2.2 x.1.2.2).1.map fun s => ((acL c (max x.1.1 c.1) (min x.1.2.1 (c.1 + c.2.1)), acR c (max x.1.1 c.1) (min x.1.2.1 (c.1 + c.2.1)), s), x.2)
def spGoS (c : Ch) : List Spt → List Spt
  | [] => []
  | x :: t => fndl c x ++ spGoS c t
theorem find_ok0 {m : List Rn} (hc : Chk m) {x : Spt} (hx : SpotOk x) : (findS m x.1.2.2).2 = 0 ∧ (findS m x.1.2.2).1.length ≤ 256 := by
  obtain ⟨⟨a, b, c, d, e, f⟩, _, _, _, _⟩ := hx
  unfold findS
  rw [if_neg (fun h => h (chk_zero.2 hc)), if_neg (by omega)]
  refine ⟨rfl, ?_⟩
  have h1 := nf_len (find_in hc x.1.2.2)
  have h2 := fndS_len m 0 x.1.2.2
  have h3 := hc.len
  show (nf (fndS m 0 x.1.2.2)).length ≤ 256
  omega
theorem Spots_18 (k : Nat) (a b : Int) (sp : List Spt) (len i : Int) (fo : List Sp) (c : Ch) (x : Spt) (hf : fo.length ≤ 256) : ∀ (d q n : Nat) (out : List Spt), q + d = fo.length → out.length ≤ 100000 + q →
    f_u22_18 k (n + d + 1) a b sp len i fo (fo.length : Int) (q : Int) c out x = f_u22_9 k n sp len (IntKind.i64.wrap (i + 1)) c (out ++ (fo.drop q).map fun s => ((a, b, s), x.2)) := by
  intro d
  induction d with
  | zero =>
    intro q n out hq ho
    rw [f_u22_18, decide_eq_false (by omega : ¬ (q : Int) < (fo.length : Int)), cond_false, List.drop_of_length_le (by omega), List.map_nil, List.append_nil]
  | succ d ih =>
    intro q n out hq ho
    rw [show n + (d + 1) + 1 = (n + d + 1) + 1 from rfl, f_u22_18, decide_eq_true (by omega : (q : Int) < (fo.length : Int)), cond_true, if_pos ⟨by omega, by omega⟩, Int.toNat_natCast, if_pos (by rw [List.length_singleton]; omega), wrapS q (by omega), ih (q + 1) n _ (by omega) (by rw [List.length_append, List.length_singleton]; omega), drop_cons' fo q T9.dflt (by omega), List.map_cons, List.append_assoc]
    rfl
set_option maxRecDepth 20000 in
theorem Spots_9 (k : Nat) (hk : 2100 ≤ k) (sp : List Spt) (hs : ∀ x ∈ sp, SpotOk x) (hsl : sp.length ≤ 128) (c : Ch) (c0 : 0 ≤ c.1) (c1 : c.1 + c.2.1 ≤ 12000) (c2 : 0 ≤ c.2.1) (hc : Chk c.2.2.2) : ∀ (d i j : Nat) (out : List Spt), i + d = sp.length → d * 258 < j → out.length ≤ i * 256 →
    f_u22_9 k j sp (sp.length : Int) (i : Int) c out = some (if (out ++ spGoS c (sp.drop i)).length > 128 then ([], 8) else (out ++ spGoS c (sp.drop i), 0)) := by
  intro d
  induction d with
  | zero =>
    intro i j out hi hj ho
    obtain ⟨j, rfl⟩ : ∃ q, j = q + 1 := ⟨j - 1, by omega⟩
    rw [f_u22_9, decide_eq_false (by omega : ¬ (i : Int) < (sp.length : Int)), cond_false, List.drop_of_length_le (by omega), spGoS, List.append_nil]
    by_cases h : out.length > 128
    · rw [decide_eq_true (by omega : (out.length : Int) > 128), if_pos h]; rfl
    · rw [decide_eq_false (by omega : ¬ (out.length : Int) > 128), if_neg h]; rfl
  | succ d ih =>
    intro i j out hi hj ho
    have hx : SpotOk (sp.getD i T4.dflt) := hs _ (getD_mem' _ _ _ (by omega))
    obtain ⟨j, rfl⟩ : ∃ q, j = q + 1 := ⟨j - 1, by omega⟩
    rw [f_u22_9, decide_eq_true (by omega : (i : Int) < (sp.length : Int)), cond_true, if_pos ⟨by omega, by omega⟩, Int.toNat_natCast, drop_cons' sp i T4.dflt (by omega), spGoS]
    generalize sp.getD i T4.dflt = x at *
    obtain ⟨f1, f2⟩ := find_ok0 hc hx
    obtain ⟨⟨x1, x2, x3, x4, x5, x6⟩, _, _, _, _⟩ := _root_.id hx
    rw [wrap_id (i := c.1 + c.2.1) (by omega) (by omega), max_if, min_if2]
    have ha : f_u24 k c (max x.1.1 c.1) (min x.1.2.1 (c.1 + c.2.1)) = some (acL c (max x.1.1 c.1) (min x.1.2.1 (c.1 + c.2.1)), acR c (max x.1.1 c.1) (min x.1.2.1 (c.1 + c.2.1))) := by
      unfold f_u24 acL acR
      rw [wrap_id (i := min x.1.2.1 (c.1 + c.2.1) - c.1) (by omega) (by omega), wrap_id (i := max x.1.1 c.1 - c.1) (by omega) (by omega), wrap_id (by omega) (by omega), wrap_id (by omega) (by omega)]
      cases c.2.2.1 <;> rfl
    unfold fndl
    by_cases h : max x.1.1 c.1 ≥ min x.1.2.1 (c.1 + c.2.1)
    · rw [decide_eq_true h, cond_true, if_pos h, List.nil_append, wrapS i (by omega)]
      exact ih (i + 1) j out (by omega) (by omega) (by omega)
    · obtain ⟨j, rfl⟩ : ∃ q, j = q + (findS c.2.2.2 x.1.2.2).1.length + 1 := ⟨j - (findS c.2.2.2 x.1.2.2).1.length - 1, by omega⟩
      have h18 := Spots_18 k (acL c (max x.1.1 c.1) (min x.1.2.1 (c.1 + c.2.1))) (acR c (max x.1.1 c.1) (min x.1.2.1 (c.1 + c.2.1))) sp (sp.length : Int) (i : Int) (findS c.2.2.2 x.1.2.2).1 c x f2 (findS c.2.2.2 x.1.2.2).1.length 0 j out (by omega) (by omega)
      rw [decide_eq_false h, cond_false, if_neg h]
      unfold v_u24
      rw [ha, iso_Find_s k hk, iso_Find_v k hk, Option.isSome_some, if_pos rfl, Option.isSome_some, if_pos rfl, f1]
      show f_u22_18 k (j + (findS c.2.2.2 x.1.2.2).1.length + 1) _ _ sp _ _ (findS c.2.2.2 x.1.2.2).1 _ 0 c out x = _
      refine h18.trans ?_
      rw [List.drop_zero, wrapS i (by omega), ih (i + 1) j _ (by omega) (by omega) (by rw [List.length_append, List.length_map]; omega), List.append_assoc]
def spotsS (l : List Ro) (W L : Int) (sp : List Spt) (id : Int) : List Spt × Int :=
  if (cutFull l W L id).2 ≠ 0 then ([], (cutFull l W L id).2) else if spotsE sp ≠ 0 then ([], spotsE sp)
  else if (spGoS (cutFull l W L id).1 sp).length > 128 then ([], 8) else (spGoS (cutFull l W L id).1 sp, 0)
theorem inherit_Spots_s (k : Nat) (hk : 300000 ≤ k) (l : List Ro) (web : Int × Int) (sp : List Spt) (id : Int) : f_u22 k l web sp id = some (spotsS l web.1 web.2 sp id) := by
  unfold f_u22 spotsS
  rw [fam_Cut_s k hk, fam_Cut_v k hk, defect_Check_s k (by omega), defect_Check_v k (by omega), Option.isSome_some, if_pos rfl, Option.isSome_some, if_pos rfl]
  by_cases h1 : (cutFull l web.1 web.2 id).2 = 0
  · obtain ⟨reg, ci⟩ := cut_in h1
    have hsz := reg.small 512 id
    generalize (cutFull l web.1 web.2 id) = o at *
    obtain ⟨c1, c2, c3, c4, c5, _⟩ := ci
    have hw := reg.w
    rw [show (o.2 != 0) = false by simp [h1], cond_false, if_neg (fun h : o.2 ≠ 0 => h h1)]
    by_cases h2 : spotsE sp = 0
    · obtain ⟨s1, s2⟩ := spotsE_zero h2
      rw [show (spotsE sp != 0) = false by simp [h2], cond_false, if_neg (fun h : spotsE sp ≠ 0 => h h2)]
      have hwid : 0 ≤ o.1.2.1 := by
        by_cases h : 0 ≤ o.1.2.1
        · exact h
        · exfalso
          rw [c3] at h
          unfold sizeS at h
          by_cases h0 : id = 0
          · rw [if_pos h0] at h; exact h (by show 0 ≤ web.1; omega)
          · rw [if_neg h0] at h
            cases e : look l id with
            | none => rw [e] at h; exact h (Int.le_refl _)
            | some r =>
              rw [e] at h
              have := (reg.wl r (look_some e).1).w0
              exact h (by show 0 ≤ r.2.2.2.1; omega)
      have := Spots_9 k (by omega) sp s2 s1 o.1 c1 (by omega) hwid c4 sp.length 0 k [] (by omega) (by omega) (by simp)
      exact this
    · rw [bne_iff_ne.2 h2, if_pos h2]; rfl
  · rw [bne_iff_ne.2 h1, if_pos h1]; rfl
theorem inherit_Spots_v (k : Nat) (hk : 300000 ≤ k) (l : List Ro) (web : Int × Int) (sp : List Spt) (id : Int) : v_u22 k l web sp id = spotsS l web.1 web.2 sp id := by
  unfold v_u22; rw [inherit_Spots_s k hk]; rfl
end Go.AM
namespace Go.AM
open Go Go.Proofs
noncomputable section
abbrev R_u21 : Type := Bool
def res_u21 (r : R_u21) : AV := .r (.v (.bool r))
def bo_u21 (x_ : T4.T) (z0 : T7.T) (r : R_u21) : List (Nat × Blk) := [(0, .var 49 (rvs (enc T7 z0)))]
def args_u21 (x_ : T4.T) (z0 : T7.T) : List AV := [.agg (rvs (enc T4 x_)), .ptr 0 0 0]
def bin_u21 (x_ : T4.T) (z0 : T7.T) : List Blk := [.var 49 (rvs (enc T7 z0))]
abbrev C_u21 (x_ : T4.T) (z0 : T7.T) (r : R_u21) : Prop := CC Try.prog 38 (args_u21 x_ z0) (bin_u21 x_ z0) (res_u21 r) (bo_u21 x_ z0 r)
def f_u21 (k : Nat) (x_ : T4.T) (z0 : T7.T) : Option R_u21 :=
  some ((z0.2.1 == 0 || x_.2.1 == z0.2.1) && decide (x_.2.2 ≥ z0.2.2))
def v_u21 (k : Nat) (x_ : T4.T) (z0 : T7.T) : R_u21 := (f_u21 k x_ z0).getD false
def ke_u21 (k : Nat) : Ke := (38, fun xs => match xs with
  | [_, .ptr _ _ _] => some [false, true]
  | _ => none, fun xs bs => match xs, bs with
  | [.agg qx_, .ptr 0 0 0], [.var 49 qz0] => (decS [] T4 qx_).bind fun x_ => (decS [] T7 qz0).bind fun z0 => some (.one (res_u21 (v_u21 k x_ z0), bo_u21 x_ z0 (v_u21 k x_ z0)))
  | _, _ => none)
theorem of_u21 (k : Nat) (x_ : T4.T) (z0 : T7.T) (r : R_u21) (h : f_u21 k x_ z0 = some r) : C_u21 x_ z0 r := by
  refine CC.of (fn := Try.f38) (by kernel_rfl) (by kernel_rfl) (by kernel_rfl) (by kernel_rfl) ?_
  unfold f_u21 at h
  exact go (mkK []) [] [] [.autoB [3] true []] (gL h) (by kernel_rfl)
theorem cc_u21 {k : Nat} {x_ : T4.T} {z0 : T7.T} (h : (f_u21 k x_ z0).isSome = true) : C_u21 x_ z0 (v_u21 k x_ z0) := ccG (Φ := C_u21 x_ z0) h (of_u21 k x_ z0)
abbrev R_u25 : Type := List (T9).T
def res_u25 (r : R_u25) : AV := .r (.ro T9 r)
def bo_u25 (f_a0c0 : T7.T) (l_ : List (T4).T) (r : R_u25) : List (Nat × Blk) := [(0, .var 49 (rvs (enc T7 f_a0c0)))]
def args_u25 (f_a0c0 : T7.T) (l_ : List (T4).T) : List AV := [.agg [.fn (.func 38) [] [.ptr 0 0 0]], .r (.ro T4 l_)]
def bin_u25 (f_a0c0 : T7.T) (l_ : List (T4).T) : List Blk := [.var 49 (rvs (enc T7 f_a0c0))]
abbrev C_u25 (f_a0c0 : T7.T) (l_ : List (T4).T) (r : R_u25) : Prop := CC Try.prog 40 (args_u25 f_a0c0 l_) (bin_u25 f_a0c0 l_) (res_u25 r) (bo_u25 f_a0c0 l_ r)
def st_u25_3 (f_a0c0 : T7.T) (l_ : List (T4).T) (y0 : List (T4).T) (y1 : Int) (y2 : Int) (y3 : List (T9).T) : St := ⟨mkS 30 [(2, .ptr 1000000 0 0), (5, .own 1000001 0), (8, .r (.ro T4 y0)), (9, .r (.v (.int .i64 y1))), (10, .r (.v (.int .i64 y2)))], [(0, 0, .var 49 (rvs (enc T7 f_a0c0))), (1000000, 0, .var 96 [.fn ((Fn.func 38)) [] [.ptr 0 0 0]]), (1000001, 0, .row 82 T9 y3)]⟩
def f_u25_3 (k : Nat) (f_a0c0 : T7.T) (l_ : List (T4).T) : Nat → List (T4).T → Int → Int → List (T9).T → Option R_u25
  | 0, _, _, _, _ => none
  | j + 1, y0, y1, y2, y3 =>
  bif (decide (y2 < y1)) then
  if (0 ≤ y2) ∧ (y2 < (↑y0.length : Int)) then
  if ((f_u21 k (y0.getD y2.toNat T4.dflt) f_a0c0).isSome = true) then
  bif (v_u21 k (y0.getD y2.toNat T4.dflt) f_a0c0) then
  if ((y3.length + [(y0.getD y2.toNat T4.dflt).1.2.2].length) * (16 : Nat) ≤ (140737488355328 : Nat)) then
  f_u25_3 k f_a0c0 l_ j y0 y1 ((IntKind.i64.wrap (y2 + 1))) ((y3 ++ [(y0.getD y2.toNat T4.dflt).1.2.2]))
  else none
  else
  f_u25_3 k f_a0c0 l_ j y0 y1 ((IntKind.i64.wrap (y2 + 1))) y3
  else none
  else none
  else
  some y3
def f_u25 (k : Nat) (f_a0c0 : T7.T) (l_ : List (T4).T) : Option R_u25 :=
  f_u25_3 k f_a0c0 l_ k l_ ((↑l_.length : Int)) 0 ([])
def v_u25 (k : Nat) (f_a0c0 : T7.T) (l_ : List (T4).T) : R_u25 := (f_u25 k f_a0c0 l_).getD []
def ke_u25 (k : Nat) : Ke := (40, fun xs => match xs with
  | [.agg [.fn (.func 38) _ _], _] => some [true, false]
  | _ => none, fun xs bs => match xs, bs with
  | [.agg [.fn (.func 38) [] [.ptr 0 0 0]], .r (.ro tl__ ql_)], [.var 49 qf_a0c0] => (castL tl__ T4 ql_).bind fun l_ => (decS [] T7 qf_a0c0).bind fun f_a0c0 => some (.one (res_u25 (v_u25 k f_a0c0 l_), bo_u25 f_a0c0 l_ (v_u25 k f_a0c0 l_)))
  | _, _ => none)
def cs_u25 : List (Nat × List Cmd) := [(3, [.row 5 82 T9, .autoB [2, 5, 8, 9, 10] false []])]
abbrev E_u25 (f_a0c0 : T7.T) (l_ : List (T4).T) (todo : List Item) (st : St) (o : Option R_u25) : Prop := ∀ r, o = some r → Ev Try.prog Try.f40 1 todo st (res_u25 r) (bo_u25 f_a0c0 l_ r)
theorem ev_u25 (k : Nat) (f_a0c0 : T7.T) (l_ : List (T4).T) : ∀ j, (∀ (y0 : List (T4).T) (y1 : Int) (y2 : Int) (y3 : List (T9).T), E_u25 f_a0c0 l_ (placeAt Try.f40 3) (st_u25_3 f_a0c0 l_ y0 y1 y2 y3) (f_u25_3 k f_a0c0 l_ j y0 y1 y2 y3))
  | 0 => fun _ _ _ _ _ h => (nomatch h)
  | j + 1 => by
    have ih := @ev_u25 k f_a0c0 l_ j
    · intro y0 y1 y2 y3 r h
      rw [f_u25_3] at h
      exact go (mkK [ke_u21 k]) [] cs_u25 [.frz 4 false (RTy.list T9), .autoB [4] true []] (gT h (fun c h => gN2 h fun h => gN1 h (fun q => cc_u21 q) fun h => gT h (fun c h => gN1 h id fun h => gC h 3 (ih _ _ _ _ _)) fun c h => gC h 3 (ih _ _ _ _ _)) fun c h => gL h) (by kernel_rfl)
theorem of_u25 (k : Nat) (f_a0c0 : T7.T) (l_ : List (T4).T) (r : R_u25) (h : f_u25 k f_a0c0 l_ = some r) : C_u25 f_a0c0 l_ r := by
  refine CC.of (fn := Try.f40) (by kernel_rfl) (by kernel_rfl) (by kernel_rfl) (by kernel_rfl) ?_
  unfold f_u25 at h
  exact go (mkK [ke_u21 k]) [] cs_u25 [.frz 4 false (RTy.list T9), .autoB [4] true []] (gC h 3 ((ev_u25 k f_a0c0 l_ k) _ _ _ _ _)) (by kernel_rfl)
theorem cc_u25 {k : Nat} {f_a0c0 : T7.T} {l_ : List (T4).T} (h : (f_u25 k f_a0c0 l_).isSome = true) : C_u25 f_a0c0 l_ (v_u25 k f_a0c0 l_) := ccG (Φ := C_u25 f_a0c0 l_) h (of_u25 k f_a0c0 l_)
abbrev R_u20 : Type := Int × Int
def res_u20 (r : R_u20) : AV := .tup [.r (.v (.int .i64 r.1)), .r (.v (.int .i64 r.2))]
def bo_u20 (l_ : List (T2).T) (web_ : T6.T) (spots_ : List (T4).T) (q_ : T7.T) (r : R_u20) : List (Nat × Blk) := []
def args_u20 (l_ : List (T2).T) (web_ : T6.T) (spots_ : List (T4).T) (q_ : T7.T) : List AV := [.r (.ro T2 l_), .agg (rvs (enc T6 web_)), .r (.ro T4 spots_), .agg (rvs (enc T7 q_))]
def bin_u20 (l_ : List (T2).T) (web_ : T6.T) (spots_ : List (T4).T) (q_ : T7.T) : List Blk := []
abbrev C_u20 (l_ : List (T2).T) (web_ : T6.T) (spots_ : List (T4).T) (q_ : T7.T) (r : R_u20) : Prop := CC Try.prog 15 (args_u20 l_ web_ spots_ q_) (bin_u20 l_ web_ spots_ q_) (res_u20 r) (bo_u20 l_ web_ spots_ q_ r)
def f_u20 (k : Nat) (l_ : List (T2).T) (web_ : T6.T) (spots_ : List (T4).T) (q_ : T7.T) : Option R_u20 :=
  if ((f_u22 k l_ web_ spots_ q_.1).isSome = true) then
  bif ((v_u22 k l_ web_ spots_ q_.1).2 != (0 : Int)) then
  some ((0, (v_u22 k l_ web_ spots_ q_.1).2))
  else
  if ((f_u25 k q_ (v_u22 k l_ web_ spots_ q_.1).1).isSome = true) ∧ ((f_u76 k (v_u25 k q_ (v_u22 k l_ web_ spots_ q_.1).1)).isSome = true) then
  some (((v_u76 k (v_u25 k q_ (v_u22 k l_ web_ spots_ q_.1).1)).1, (v_u76 k (v_u25 k q_ (v_u22 k l_ web_ spots_ q_.1).1)).2))
  else none
  else none
def v_u20 (k : Nat) (l_ : List (T2).T) (web_ : T6.T) (spots_ : List (T4).T) (q_ : T7.T) : R_u20 := (f_u20 k l_ web_ spots_ q_).getD (0, 0)
def ke_u20 (k : Nat) : Ke := (15, fun xs => match xs with
  | [_, _, _, _] => some [false, false, false, false]
  | _ => none, fun xs bs => match xs, bs with
  | [.r (.ro tl__ ql_), .agg qweb_, .r (.ro tspots__ qspots_), .agg qq_], [] => (castL tl__ T2 ql_).bind fun l_ => (decS [] T6 qweb_).bind fun web_ => (castL tspots__ T4 qspots_).bind fun spots_ => (decS [] T7 qq_).bind fun q_ => some (.one (res_u20 (v_u20 k l_ web_ spots_ q_), bo_u20 l_ web_ spots_ q_ (v_u20 k l_ web_ spots_ q_)))
  | _, _ => none)
theorem of_u20 (k : Nat) (l_ : List (T2).T) (web_ : T6.T) (spots_ : List (T4).T) (q_ : T7.T) (r : R_u20) (h : f_u20 k l_ web_ spots_ q_ = some r) : C_u20 l_ web_ spots_ q_ r := by
  refine CC.of (fn := Try.f15) (by kernel_rfl) (by kernel_rfl) (by kernel_rfl) (by kernel_rfl) ?_
  unfold f_u20 at h
  exact go (mkK [ke_u76 k, ke_u22 k, ke_u21 k, ke_u25 k]) [] [] [.autoB [8, 9] true []] (gN1 h (fun q => cc_u22 q) fun h => gT h (fun c h => gL h) fun c h => gN h (fun q => conjC (cc_u25 q.1) (conjC (cc_u76 q.2) conj0)) fun h => gL h) (by kernel_rfl)
theorem cc_u20 {k : Nat} {l_ : List (T2).T} {web_ : T6.T} {spots_ : List (T4).T} {q_ : T7.T} (h : (f_u20 k l_ web_ spots_ q_).isSome = true) : C_u20 l_ web_ spots_ q_ (v_u20 k l_ web_ spots_ q_) := ccG (Φ := C_u20 l_ web_ spots_ q_) h (of_u20 k l_ web_ spots_ q_)
abbrev R_u23 : Type := Int × Int
def res_u23 (r : R_u23) : AV := .tup [.r (.v (.int .i64 r.1)), .r (.v (.int .i64 r.2))]
def bo_u23 (l_ : List (T2).T) (web_ : T6.T) (spots_ : List (T4).T) (id_ : Int) (r : R_u23) : List (Nat × Blk) := []
def args_u23 (l_ : List (T2).T) (web_ : T6.T) (spots_ : List (T4).T) (id_ : Int) : List AV := [.r (.ro T2 l_), .agg (rvs (enc T6 web_)), .r (.ro T4 spots_), .r (.v (.int .i64 id_))]
def bin_u23 (l_ : List (T2).T) (web_ : T6.T) (spots_ : List (T4).T) (id_ : Int) : List Blk := []
abbrev C_u23 (l_ : List (T2).T) (web_ : T6.T) (spots_ : List (T4).T) (id_ : Int) (r : R_u23) : Prop := CC Try.prog 16 (args_u23 l_ web_ spots_ id_) (bin_u23 l_ web_ spots_ id_) (res_u23 r) (bo_u23 l_ web_ spots_ id_ r)
def st_u23_6 (y0 : Int) (y1 : List (T4).T) (y2 : Int) (y3 : Int) : St := ⟨mkS 38 [(12, .r (.v (.int .i64 y0))), (26, .r (.ro T4 y1)), (27, .r (.v (.int .i64 y2))), (28, .r (.v (.int .i64 y3)))], []⟩
def f_u23_6 (k : Nat) : Nat → Int → List (T4).T → Int → Int → Option R_u23
  | 0, _, _, _, _ => none
  | j + 1, y0, y1, y2, y3 =>
  bif (decide (y3 < y2)) then
  if (0 ≤ y3) ∧ (y3 < (↑y1.length : Int)) then
  f_u23_6 k j ((if (y1.getD y3.toNat T4.dflt).2.2 > y0 then (y1.getD y3.toNat T4.dflt).2.2 else y0)) y1 y2 ((IntKind.i64.wrap (y3 + 1)))
  else none
  else
  some ((y0, 0))
def f_u23 (k : Nat) (l_ : List (T2).T) (web_ : T6.T) (spots_ : List (T4).T) (id_ : Int) : Option R_u23 :=
  if ((f_u22 k l_ web_ spots_ id_).isSome = true) then
  bif ((v_u22 k l_ web_ spots_ id_).2 != (0 : Int)) then
  some ((0, (v_u22 k l_ web_ spots_ id_).2))
  else
  f_u23_6 k k 0 ((v_u22 k l_ web_ spots_ id_).1) ((↑ (v_u22 k l_ web_ spots_ id_).1.length : Int)) 0
  else none
def v_u23 (k : Nat) (l_ : List (T2).T) (web_ : T6.T) (spots_ : List (T4).T) (id_ : Int) : R_u23 := (f_u23 k l_ web_ spots_ id_).getD (0, 0)
def ke_u23 (k : Nat) : Ke := (16, fun xs => match xs with
  | [_, _, _, _] => some [false, false, false, false]
  | _ => none, fun xs bs => match xs, bs with
  | [.r (.ro tl__ ql_), .agg qweb_, .r (.ro tspots__ qspots_), .r (.v (.int .i64 id_))], [] => (castL tl__ T2 ql_).bind fun l_ => (decS [] T6 qweb_).bind fun web_ => (castL tspots__ T4 qspots_).bind fun spots_ => some (.one (res_u23 (v_u23 k l_ web_ spots_ id_), bo_u23 l_ web_ spots_ id_ (v_u23 k l_ web_ spots_ id_)))
  | _, _ => none)
def cs_u23 : List (Nat × List Cmd) := [(6, [.autoB [12, 26, 27, 28] false []])]
abbrev E_u23 (l_ : List (T2).T) (web_ : T6.T) (spots_ : List (T4).T) (id_ : Int) (todo : List Item) (st : St) (o : Option R_u23) : Prop := ∀ r, o = some r → Ev Try.prog Try.f16 0 todo st (res_u23 r) (bo_u23 l_ web_ spots_ id_ r)
theorem ev_u23 (k : Nat) (l_ : List (T2).T) (web_ : T6.T) (spots_ : List (T4).T) (id_ : Int) : ∀ j, (∀ (y0 : Int) (y1 : List (T4).T) (y2 : Int) (y3 : Int), E_u23 l_ web_ spots_ id_ (placeAt Try.f16 6) (st_u23_6 y0 y1 y2 y3) (f_u23_6 k j y0 y1 y2 y3))
  | 0 => fun _ _ _ _ _ h => (nomatch h)
  | j + 1 => by
    have ih := @ev_u23 k l_ web_ spots_ id_ j
    · intro y0 y1 y2 y3 r h
      rw [f_u23_6] at h
      exact go (mkK [ke_u22 k]) [] cs_u23 [.autoB [8, 9] true []] (gT h (fun c h => gN2 h fun h => gC h 6 (ih _ _ _ _ _)) fun c h => gL h) (by kernel_rfl)
theorem of_u23 (k : Nat) (l_ : List (T2).T) (web_ : T6.T) (spots_ : List (T4).T) (id_ : Int) (r : R_u23) (h : f_u23 k l_ web_ spots_ id_ = some r) : C_u23 l_ web_ spots_ id_ r := by
  refine CC.of (fn := Try.f16) (by kernel_rfl) (by kernel_rfl) (by kernel_rfl) (by kernel_rfl) ?_
  unfold f_u23 at h
  exact go (mkK [ke_u22 k]) [] cs_u23 [.autoB [8, 9] true []] (gN1 h (fun q => cc_u22 q) fun h => gT h (fun c h => gL h) fun c h => gC h 6 ((ev_u23 k l_ web_ spots_ id_ k) _ _ _ _ _)) (by kernel_rfl)
theorem cc_u23 {k : Nat} {l_ : List (T2).T} {web_ : T6.T} {spots_ : List (T4).T} {id_ : Int} (h : (f_u23 k l_ web_ spots_ id_).isSome = true) : C_u23 l_ web_ spots_ id_ (v_u23 k l_ web_ spots_ id_) := ccG (Φ := C_u23 l_ web_ spots_ id_) h (of_u23 k l_ web_ spots_ id_)
abbrev R_u57 : Type := Bool
def res_u57 (r : R_u57) : AV := .r (.v (.bool r))
def bo_u57 (a_ : List (T4).T) (b_ : List (T4).T) (r : R_u57) : List (Nat × Blk) := []
def args_u57 (a_ : List (T4).T) (b_ : List (T4).T) : List AV := [.r (.ro T4 a_), .r (.ro T4 b_)]
def bin_u57 (a_ : List (T4).T) (b_ : List (T4).T) : List Blk := []
abbrev C_u57 (a_ : List (T4).T) (b_ : List (T4).T) (r : R_u57) : Prop := CC Try.prog 20 (args_u57 a_ b_) (bin_u57 a_ b_) (res_u57 r) (bo_u57 a_ b_ r)
def st_u57_4 (y0 : List (T4).T) (y1 : List (T4).T) (y2 : Int) : St := ⟨mkS 26 [(0, .r (.ro T4 y0)), (1, .r (.ro T4 y1)), (5, .r (.v (.int .i64 y2)))], []⟩
def f_u57_4 (k : Nat) : Nat → List (T4).T → List (T4).T → Int → Option R_u57
  | 0, _, _, _ => none
  | j + 1, y0, y1, y2 =>
  bif (decide (y2 < (↑y0.length : Int))) then
  if (0 ≤ y2) ∧ (y2 < (↑y0.length : Int)) ∧ (0 ≤ y2) ∧ (y2 < (↑y1.length : Int)) then
  bif (!eqT T4 (y0.getD y2.toNat T4.dflt) (y1.getD y2.toNat T4.dflt)) then
  some false
  else
  f_u57_4 k j y0 y1 ((IntKind.i64.wrap (y2 + 1)))
  else none
  else
  some true
def f_u57 (k : Nat) (a_ : List (T4).T) (b_ : List (T4).T) : Option R_u57 :=
  bif ((↑a_.length : Int) != (↑b_.length : Int)) then
  some false
  else
  f_u57_4 k k a_ b_ 0
def v_u57 (k : Nat) (a_ : List (T4).T) (b_ : List (T4).T) : R_u57 := (f_u57 k a_ b_).getD false
def ke_u57 (k : Nat) : Ke := (20, fun xs => match xs with
  | [_, _] => some [false, false]
  | _ => none, fun xs bs => match xs, bs with
  | [.r (.ro ta__ qa_), .r (.ro tb__ qb_)], [] => (castL ta__ T4 qa_).bind fun a_ => (castL tb__ T4 qb_).bind fun b_ => some (.one (res_u57 (v_u57 k a_ b_), bo_u57 a_ b_ (v_u57 k a_ b_)))
  | _, _ => none)
def cs_u57 : List (Nat × List Cmd) := [(4, [.autoB [0, 1, 5] false []])]
abbrev E_u57 (a_ : List (T4).T) (b_ : List (T4).T) (todo : List Item) (st : St) (o : Option R_u57) : Prop := ∀ r, o = some r → Ev Try.prog Try.f20 0 todo st (res_u57 r) (bo_u57 a_ b_ r)
theorem ev_u57 (k : Nat) (a_ : List (T4).T) (b_ : List (T4).T) : ∀ j, (∀ (y0 : List (T4).T) (y1 : List (T4).T) (y2 : Int), E_u57 a_ b_ (placeAt Try.f20 4) (st_u57_4 y0 y1 y2) (f_u57_4 k j y0 y1 y2))
  | 0 => fun _ _ _ _ h => (nomatch h)
  | j + 1 => by
    have ih := @ev_u57 k a_ b_ j
    · intro y0 y1 y2 r h
      rw [f_u57_4] at h
      exact go (mkK []) [] cs_u57 [.autoB [4] true []] (gT h (fun c h => gN h (fun q => conjC q.1 (conjC q.2.1 (conjC q.2.2.1 (conjC q.2.2.2 conj0)))) fun h => gT h (fun c h => gL h) fun c h => gC h 4 (ih _ _ _ _)) fun c h => gL h) (by kernel_rfl)
theorem of_u57 (k : Nat) (a_ : List (T4).T) (b_ : List (T4).T) (r : R_u57) (h : f_u57 k a_ b_ = some r) : C_u57 a_ b_ r := by
  refine CC.of (fn := Try.f20) (by kernel_rfl) (by kernel_rfl) (by kernel_rfl) (by kernel_rfl) ?_
  unfold f_u57 at h
  exact go (mkK []) [] cs_u57 [.autoB [4] true []] (gT h (fun c h => gL h) fun c h => gC h 4 ((ev_u57 k a_ b_ k) _ _ _ _)) (by kernel_rfl)
theorem cc_u57 {k : Nat} {a_ : List (T4).T} {b_ : List (T4).T} (h : (f_u57 k a_ b_).isSome = true) : C_u57 a_ b_ (v_u57 k a_ b_) := ccG (Φ := C_u57 a_ b_) h (of_u57 k a_ b_)
abbrev R_u56 : Type := Bool
def res_u56 (r : R_u56) : AV := .r (.v (.bool r))
def bo_u56 (a_ : List (T3).T) (b_ : List (T3).T) (r : R_u56) : List (Nat × Blk) := []
def args_u56 (a_ : List (T3).T) (b_ : List (T3).T) : List AV := [.r (.ro T3 a_), .r (.ro T3 b_)]
def bin_u56 (a_ : List (T3).T) (b_ : List (T3).T) : List Blk := []
abbrev C_u56 (a_ : List (T3).T) (b_ : List (T3).T) (r : R_u56) : Prop := CC Try.prog 25 (args_u56 a_ b_) (bin_u56 a_ b_) (res_u56 r) (bo_u56 a_ b_ r)
def st_u56_4 (y0 : List (T3).T) (y1 : List (T3).T) (y2 : Int) : St := ⟨mkS 26 [(0, .r (.ro T3 y0)), (1, .r (.ro T3 y1)), (5, .r (.v (.int .i64 y2)))], []⟩
def f_u56_4 (k : Nat) : Nat → List (T3).T → List (T3).T → Int → Option R_u56
  | 0, _, _, _ => none
  | j + 1, y0, y1, y2 =>
  bif (decide (y2 < (↑y0.length : Int))) then
  if (0 ≤ y2) ∧ (y2 < (↑y0.length : Int)) ∧ (0 ≤ y2) ∧ (y2 < (↑y1.length : Int)) then
  bif (!eqT T3 (y0.getD y2.toNat T3.dflt) (y1.getD y2.toNat T3.dflt)) then
  some false
  else
  f_u56_4 k j y0 y1 ((IntKind.i64.wrap (y2 + 1)))
  else none
  else
  some true
def f_u56 (k : Nat) (a_ : List (T3).T) (b_ : List (T3).T) : Option R_u56 :=
  bif ((↑a_.length : Int) != (↑b_.length : Int)) then
  some false
  else
  f_u56_4 k k a_ b_ 0
def v_u56 (k : Nat) (a_ : List (T3).T) (b_ : List (T3).T) : R_u56 := (f_u56 k a_ b_).getD false
def ke_u56 (k : Nat) : Ke := (25, fun xs => match xs with
  | [_, _] => some [false, false]
  | _ => none, fun xs bs => match xs, bs with
  | [.r (.ro ta__ qa_), .r (.ro tb__ qb_)], [] => (castL ta__ T3 qa_).bind fun a_ => (castL tb__ T3 qb_).bind fun b_ => some (.one (res_u56 (v_u56 k a_ b_), bo_u56 a_ b_ (v_u56 k a_ b_)))
  | _, _ => none)
def cs_u56 : List (Nat × List Cmd) := [(4, [.autoB [0, 1, 5] false []])]
abbrev E_u56 (a_ : List (T3).T) (b_ : List (T3).T) (todo : List Item) (st : St) (o : Option R_u56) : Prop := ∀ r, o = some r → Ev Try.prog Try.f25 0 todo st (res_u56 r) (bo_u56 a_ b_ r)
theorem ev_u56 (k : Nat) (a_ : List (T3).T) (b_ : List (T3).T) : ∀ j, (∀ (y0 : List (T3).T) (y1 : List (T3).T) (y2 : Int), E_u56 a_ b_ (placeAt Try.f25 4) (st_u56_4 y0 y1 y2) (f_u56_4 k j y0 y1 y2))
  | 0 => fun _ _ _ _ h => (nomatch h)
  | j + 1 => by
    have ih := @ev_u56 k a_ b_ j
    · intro y0 y1 y2 r h
      rw [f_u56_4] at h
      exact go (mkK []) [] cs_u56 [.autoB [4] true []] (gT h (fun c h => gN h (fun q => conjC q.1 (conjC q.2.1 (conjC q.2.2.1 (conjC q.2.2.2 conj0)))) fun h => gT h (fun c h => gL h) fun c h => gC h 4 (ih _ _ _ _)) fun c h => gL h) (by kernel_rfl)
theorem of_u56 (k : Nat) (a_ : List (T3).T) (b_ : List (T3).T) (r : R_u56) (h : f_u56 k a_ b_ = some r) : C_u56 a_ b_ r := by
  refine CC.of (fn := Try.f25) (by kernel_rfl) (by kernel_rfl) (by kernel_rfl) (by kernel_rfl) ?_
  unfold f_u56 at h
  exact go (mkK []) [] cs_u56 [.autoB [4] true []] (gT h (fun c h => gL h) fun c h => gC h 4 ((ev_u56 k a_ b_ k) _ _ _ _)) (by kernel_rfl)
theorem cc_u56 {k : Nat} {a_ : List (T3).T} {b_ : List (T3).T} (h : (f_u56 k a_ b_).isSome = true) : C_u56 a_ b_ (v_u56 k a_ b_) := ccG (Φ := C_u56 a_ b_) h (of_u56 k a_ b_)
abbrev R_u52 : Type := T6.T
def res_u52 (r : R_u52) : AV := .agg (rvs (enc T6 r))
def bo_u52 (x_ : T5.T) (r : R_u52) : List (Nat × Blk) := []
def args_u52 (x_ : T5.T) : List AV := [.agg (rvs (enc T5 x_))]
def bin_u52 (x_ : T5.T) : List Blk := []
abbrev C_u52 (x_ : T5.T) (r : R_u52) : Prop := CC Try.prog 10 (args_u52 x_) (bin_u52 x_) (res_u52 r) (bo_u52 x_ r)
def f_u52 (k : Nat) (x_ : T5.T) : Option R_u52 :=
  some ((x_.2.1, x_.2.2.1))
def v_u52 (k : Nat) (x_ : T5.T) : R_u52 := (f_u52 k x_).getD (T6).dflt
def ke_u52 (k : Nat) : Ke := (10, fun xs => match xs with
  | [_] => some [false]
  | _ => none, fun xs bs => match xs, bs with
  | [.agg qx_], [] => (decS [] T5 qx_).bind fun x_ => some (.one (res_u52 (v_u52 k x_), bo_u52 x_ (v_u52 k x_)))
  | _, _ => none)
theorem of_u52 (k : Nat) (x_ : T5.T) (r : R_u52) (h : f_u52 k x_ = some r) : C_u52 x_ r := by
  refine CC.of (fn := Try.f10) (by kernel_rfl) (by kernel_rfl) (by kernel_rfl) (by kernel_rfl) ?_
  unfold f_u52 at h
  exact go (mkK []) [] [] [.autoB [2] true []] (gL h) (by kernel_rfl)
theorem cc_u52 {k : Nat} {x_ : T5.T} (h : (f_u52 k x_).isSome = true) : C_u52 x_ (v_u52 k x_) := ccG (Φ := C_u52 x_) h (of_u52 k x_)
abbrev R_u54 : Type := T5.T
def res_u54 (r : R_u54) : AV := .agg (rvs (enc T5 r))
def bo_u54  (r : R_u54) : List (Nat × Blk) := []
def args_u54  : List AV := []
def bin_u54  : List Blk := []
abbrev C_u54  (r : R_u54) : Prop := CC Try.prog 24 (args_u54 ) (bin_u54 ) (res_u54 r) (bo_u54  r)
def f_u54 (k : Nat)  : Option R_u54 :=
  some (([(1, 0, 20, 50, false, [(899, 400, true)]), (2, 1, 0, 30, true, [(0, 100, false), (150, 50, false)])], (100, (1000, [((10, 45, 680, 820), 3, 40)]))))
def v_u54 (k : Nat)  : R_u54 := (f_u54 k ).getD (T5).dflt
def ke_u54 (k : Nat) : Ke := (24, fun xs => match xs with
  | [] => some []
  | _ => none, fun xs bs => match xs, bs with
  | [], [] => some (.one (res_u54 (v_u54 k ), bo_u54  (v_u54 k )))
  | _, _ => none)
theorem of_u54 (k : Nat)  (r : R_u54) (h : f_u54 k  = some r) : C_u54  r := by
  refine CC.of (fn := Try.f24) (by kernel_rfl) (by kernel_rfl) (by kernel_rfl) (by kernel_rfl) ?_
  unfold f_u54 at h
  exact go (mkK []) [] [] [.frz 0 true T5, .autoB [0] true []] (gL h) (by kernel_rfl)
theorem cc_u54 {k : Nat}  (h : (f_u54 k ).isSome = true) : C_u54  (v_u54 k ) := ccG (Φ := C_u54 ) h (of_u54 k )
abbrev R_u50 : Type := Bool
def res_u50 (r : R_u50) : AV := .r (.v (.bool r))
def bo_u50  (r : R_u50) : List (Nat × Blk) := []
def args_u50  : List AV := []
def bin_u50  : List Blk := []
abbrev C_u50  (r : R_u50) : Prop := CC Try.prog 8 (args_u50 ) (bin_u50 ) (res_u50 r) (bo_u50  r)
def f_u50 (k : Nat)  : Option R_u50 :=
  if ((f_u54 k ).isSome = true) then
  if ((f_u52 k (v_u54 k)).isSome = true) ∧ ((f_u22 k (v_u54 k).1 (v_u52 k (v_u54 k)) (v_u54 k).2.2.2 1).isSome = true) then
  if ((f_u52 k (v_u54 k)).isSome = true) ∧ ((f_u22 k (v_u54 k).1 (v_u52 k (v_u54 k)) (v_u54 k).2.2.2 2).isSome = true) then
  if ((f_u52 k (v_u54 k)).isSome = true) ∧ ((f_u20 k (v_u54 k).1 (v_u52 k (v_u54 k)) (v_u54 k).2.2.2 (2, 3, 40)).isSome = true) then
  if ((f_u52 k (v_u54 k)).isSome = true) ∧ ((f_u20 k (v_u54 k).1 (v_u52 k (v_u54 k)) (v_u54 k).2.2.2 (2, 3, 41)).isSome = true) then
  if ((f_u52 k (v_u54 k)).isSome = true) ∧ ((f_u19 k (v_u54 k).1 (v_u52 k (v_u54 k)) 2 (0, 30, 90, 110)).isSome = true) then
  if ((f_u52 k (v_u54 k)).isSome = true) ∧ ((f_u23 k (v_u54 k).1 (v_u52 k (v_u54 k)) (v_u54 k).2.2.2 2).isSome = true) then
  bif ((v_u22 k (v_u54 k).1 (v_u52 k (v_u54 k)) (v_u54 k).2.2.2 (1 : Int)).2 != (0 : Int) || (v_u22 k (v_u54 k).1 (v_u52 k (v_u54 k)) (v_u54 k).2.2.2 (2 : Int)).2 != (0 : Int) || (v_u20 k (v_u54 k).1 (v_u52 k (v_u54 k)) (v_u54 k).2.2.2 ((2 : Int), (3 : Int), (40 : Int))).2 != (0 : Int) || (v_u20 k (v_u54 k).1 (v_u52 k (v_u54 k)) (v_u54 k).2.2.2 ((2 : Int), (3 : Int), (41 : Int))).2 != (0 : Int) || (v_u19 k (v_u54 k).1 (v_u52 k (v_u54 k)) (2 : Int) ((0 : Int), (30 : Int), (90 : Int), (110 : Int))).2 != (0 : Int) || (v_u23 k (v_u54 k).1 (v_u52 k (v_u54 k)) (v_u54 k).2.2.2 (2 : Int)).2 != (0 : Int)) then
  some false
  else
  bif (v_u57 k (v_u22 k (v_u54 k).1 (v_u52 k (v_u54 k)) (v_u54 k).2.2.2 (1 : Int)).1 [(((0 : Int), (25 : Int), (80 : Int), (220 : Int)), (3 : Int), (40 : Int))]) then
  bif (true && v_u57 k (v_u22 k (v_u54 k).1 (v_u52 k (v_u54 k)) (v_u54 k).2.2.2 (2 : Int)).1 [(((5 : Int), (30 : Int), (80 : Int), (150 : Int)), (3 : Int), (40 : Int))] && (v_u20 k (v_u54 k).1 (v_u52 k (v_u54 k)) (v_u54 k).2.2.2 ((2 : Int), (3 : Int), (40 : Int))).1 == (70 : Int) && (v_u20 k (v_u54 k).1 (v_u52 k (v_u54 k)) (v_u54 k).2.2.2 ((2 : Int), (3 : Int), (41 : Int))).1 == (0 : Int) && (v_u23 k (v_u54 k).1 (v_u52 k (v_u54 k)) (v_u54 k).2.2.2 (2 : Int)).1 == (40 : Int)) then
  if ((f_u57 k (v_u22 k (v_u54 k).1 (v_u52 k (v_u54 k)) (v_u54 k).2.2.2 1).1 [((0, 25, 80, 220), 3, 40)]).isSome = true) ∧ (v_u57 k (v_u22 k (v_u54 k).1 (v_u52 k (v_u54 k)) (v_u54 k).2.2.2 (1 : Int)).1 [(((0 : Int), (25 : Int), (80 : Int), (220 : Int)), (3 : Int), (40 : Int))] = true) ∧ ((f_u57 k (v_u22 k (v_u54 k).1 (v_u52 k (v_u54 k)) (v_u54 k).2.2.2 2).1 [((5, 30, 80, 150), 3, 40)]).isSome = true) ∧ ((true && v_u57 k (v_u22 k (v_u54 k).1 (v_u52 k (v_u54 k)) (v_u54 k).2.2.2 (2 : Int)).1 [(((5 : Int), (30 : Int), (80 : Int), (150 : Int)), (3 : Int), (40 : Int))] && (v_u20 k (v_u54 k).1 (v_u52 k (v_u54 k)) (v_u54 k).2.2.2 ((2 : Int), (3 : Int), (40 : Int))).1 == (70 : Int) && (v_u20 k (v_u54 k).1 (v_u52 k (v_u54 k)) (v_u54 k).2.2.2 ((2 : Int), (3 : Int), (41 : Int))).1 == (0 : Int) && (v_u23 k (v_u54 k).1 (v_u52 k (v_u54 k)) (v_u54 k).2.2.2 (2 : Int)).1 == (40 : Int)) = true) ∧ ((f_u56 k (v_u19 k (v_u54 k).1 (v_u52 k (v_u54 k)) 2 (0, 30, 90, 110)).1 [(20, 50, 740, 750), (20, 50, 800, 810)]).isSome = true) then
  some (true && v_u56 k (v_u19 k (v_u54 k).1 (v_u52 k (v_u54 k)) 2 (0, 30, 90, 110)).1 [(20, 50, 740, 750), (20, 50, 800, 810)])
  else none
  else
  if ((f_u57 k (v_u22 k (v_u54 k).1 (v_u52 k (v_u54 k)) (v_u54 k).2.2.2 1).1 [((0, 25, 80, 220), 3, 40)]).isSome = true) ∧ (v_u57 k (v_u22 k (v_u54 k).1 (v_u52 k (v_u54 k)) (v_u54 k).2.2.2 (1 : Int)).1 [(((0 : Int), (25 : Int), (80 : Int), (220 : Int)), (3 : Int), (40 : Int))] = true) ∧ ((f_u57 k (v_u22 k (v_u54 k).1 (v_u52 k (v_u54 k)) (v_u54 k).2.2.2 2).1 [((5, 30, 80, 150), 3, 40)]).isSome = true) ∧ ((true && v_u57 k (v_u22 k (v_u54 k).1 (v_u52 k (v_u54 k)) (v_u54 k).2.2.2 (2 : Int)).1 [(((5 : Int), (30 : Int), (80 : Int), (150 : Int)), (3 : Int), (40 : Int))] && (v_u20 k (v_u54 k).1 (v_u52 k (v_u54 k)) (v_u54 k).2.2.2 ((2 : Int), (3 : Int), (40 : Int))).1 == (70 : Int) && (v_u20 k (v_u54 k).1 (v_u52 k (v_u54 k)) (v_u54 k).2.2.2 ((2 : Int), (3 : Int), (41 : Int))).1 == (0 : Int) && (v_u23 k (v_u54 k).1 (v_u52 k (v_u54 k)) (v_u54 k).2.2.2 (2 : Int)).1 == (40 : Int)) = false) then
  some false
  else none
  else
  bif (false && (v_u20 k (v_u54 k).1 (v_u52 k (v_u54 k)) (v_u54 k).2.2.2 ((2 : Int), (3 : Int), (40 : Int))).1 == (70 : Int) && (v_u20 k (v_u54 k).1 (v_u52 k (v_u54 k)) (v_u54 k).2.2.2 ((2 : Int), (3 : Int), (41 : Int))).1 == (0 : Int) && (v_u23 k (v_u54 k).1 (v_u52 k (v_u54 k)) (v_u54 k).2.2.2 (2 : Int)).1 == (40 : Int)) then
  if ((f_u57 k (v_u22 k (v_u54 k).1 (v_u52 k (v_u54 k)) (v_u54 k).2.2.2 1).1 [((0, 25, 80, 220), 3, 40)]).isSome = true) ∧ (v_u57 k (v_u22 k (v_u54 k).1 (v_u52 k (v_u54 k)) (v_u54 k).2.2.2 (1 : Int)).1 [(((0 : Int), (25 : Int), (80 : Int), (220 : Int)), (3 : Int), (40 : Int))] = false) ∧ ((false && (v_u20 k (v_u54 k).1 (v_u52 k (v_u54 k)) (v_u54 k).2.2.2 ((2 : Int), (3 : Int), (40 : Int))).1 == (70 : Int) && (v_u20 k (v_u54 k).1 (v_u52 k (v_u54 k)) (v_u54 k).2.2.2 ((2 : Int), (3 : Int), (41 : Int))).1 == (0 : Int) && (v_u23 k (v_u54 k).1 (v_u52 k (v_u54 k)) (v_u54 k).2.2.2 (2 : Int)).1 == (40 : Int)) = true) ∧ ((f_u56 k (v_u19 k (v_u54 k).1 (v_u52 k (v_u54 k)) 2 (0, 30, 90, 110)).1 [(20, 50, 740, 750), (20, 50, 800, 810)]).isSome = true) then
  some (true && v_u56 k (v_u19 k (v_u54 k).1 (v_u52 k (v_u54 k)) 2 (0, 30, 90, 110)).1 [(20, 50, 740, 750), (20, 50, 800, 810)])
  else none
  else
  if ((f_u57 k (v_u22 k (v_u54 k).1 (v_u52 k (v_u54 k)) (v_u54 k).2.2.2 1).1 [((0, 25, 80, 220), 3, 40)]).isSome = true) ∧ (v_u57 k (v_u22 k (v_u54 k).1 (v_u52 k (v_u54 k)) (v_u54 k).2.2.2 (1 : Int)).1 [(((0 : Int), (25 : Int), (80 : Int), (220 : Int)), (3 : Int), (40 : Int))] = false) ∧ ((false && (v_u20 k (v_u54 k).1 (v_u52 k (v_u54 k)) (v_u54 k).2.2.2 ((2 : Int), (3 : Int), (40 : Int))).1 == (70 : Int) && (v_u20 k (v_u54 k).1 (v_u52 k (v_u54 k)) (v_u54 k).2.2.2 ((2 : Int), (3 : Int), (41 : Int))).1 == (0 : Int) && (v_u23 k (v_u54 k).1 (v_u52 k (v_u54 k)) (v_u54 k).2.2.2 (2 : Int)).1 == (40 : Int)) = false) then
  some false
  else none
  else none
  else none
  else none
  else none
  else none
  else none
  else none
def v_u50 (k : Nat)  : R_u50 := (f_u50 k ).getD false
def ke_u50 (k : Nat) : Ke := (8, fun xs => match xs with
  | [] => some []
  | _ => none, fun xs bs => match xs, bs with
  | [], [] => some (.one (res_u50 (v_u50 k ), bo_u50  (v_u50 k )))
  | _, _ => none)
theorem of_u50 (k : Nat)  (r : R_u50) (h : f_u50 k  = some r) : C_u50  r := by
  refine CC.of (fn := Try.f8) (by kernel_rfl) (by kernel_rfl) (by kernel_rfl) (by kernel_rfl) ?_
  unfold f_u50 at h
  exact go (mkK [ke_u22 k, ke_u52 k, ke_u19 k, ke_u20 k, ke_u23 k, ke_u57 k, ke_u54 k, ke_u56 k]) [] [] [.autoB [0] true []] (gN1 h (fun q => cc_u54 q) fun h => gN h (fun q => conjC (cc_u52 q.1) (conjC (cc_u22 q.2) conj0)) fun h => gN h (fun q => conjC (cc_u52 q.1) (conjC (cc_u22 q.2) conj0)) fun h => gN h (fun q => conjC (cc_u52 q.1) (conjC (cc_u20 q.2) conj0)) fun h => gN h (fun q => conjC (cc_u52 q.1) (conjC (cc_u20 q.2) conj0)) fun h => gN h (fun q => conjC (cc_u52 q.1) (conjC (cc_u19 q.2) conj0)) fun h => gN h (fun q => conjC (cc_u52 q.1) (conjC (cc_u23 q.2) conj0)) fun h => gT h (fun c h => gL h) fun c h => gT h (fun c h => gT h (fun c h => gN h (fun q => conjC (cc_u57 q.1) (conjC q.2.1 (conjC (cc_u57 q.2.2.1) (conjC q.2.2.2.1 (conjC (cc_u56 q.2.2.2.2) conj0))))) fun h => gL h) fun c h => gN h (fun q => conjC (cc_u57 q.1) (conjC q.2.1 (conjC (cc_u57 q.2.2.1) (conjC q.2.2.2 conj0)))) fun h => gL h) fun c h => gT h (fun c h => gN h (fun q => conjC (cc_u57 q.1) (conjC q.2.1 (conjC q.2.2.1 (conjC (cc_u56 q.2.2.2) conj0)))) fun h => gL h) fun c h => gN h (fun q => conjC (cc_u57 q.1) (conjC q.2.1 (conjC q.2.2 conj0))) fun h => gL h) (by kernel_rfl)
theorem cc_u50 {k : Nat}  (h : (f_u50 k ).isSome = true) : C_u50  (v_u50 k ) := ccG (Φ := C_u50 ) h (of_u50 k )
abbrev R_u55 : Type := Bool
def res_u55 (r : R_u55) : AV := .r (.v (.bool r))
def bo_u55 (x_ : T5.T) (r : R_u55) : List (Nat × Blk) := []
def args_u55 (x_ : T5.T) : List AV := [.agg (rvs (enc T5 x_))]
def bin_u55 (x_ : T5.T) : List Blk := []
abbrev C_u55 (x_ : T5.T) (r : R_u55) : Prop := CC Try.prog 7 (args_u55 x_) (bin_u55 x_) (res_u55 r) (bo_u55 x_ r)
def st_u55_5 (y0 : Int) (y1 : Int) (y2 : T5.T) : St := ⟨mkS 38 [(1, .ptr 1000000 0 0), (3, .r (.v (.int .i64 y0))), (4, .r (.v (.int .i64 y1)))], [(1000000, 0, .var 25 (rvs (enc T5 y2)))]⟩
def f_u55_5 (k : Nat) : Nat → Int → Int → T5.T → Option R_u55
  | 0, _, _, _ => none
  | j + 1, y0, y1, y2 =>
  bif (decide (y1 < (↑ (List.length y2.1) : Int)) && decide (y0 ≤ (300 : Int))) then
  if (0 ≤ y1) ∧ (y1 < (↑ (List.length y2.1) : Int)) then
  f_u55_5 k j ((IntKind.i64.wrap (y0 + (↑ (List.length (List.getD y2.1 y1.toNat T2.dflt).2.2.2.2.2) : Int)))) ((IntKind.i64.wrap (y1 + 1))) y2
  else none
  else
  some (decide (y0 ≤ 300))
def f_u55 (k : Nat) (x_ : T5.T) : Option R_u55 :=
  bif (decide ((↑ (List.length x_.1) : Int) > (40 : Int)) || decide ((↑ (List.length x_.2.2.2) : Int) > (130 : Int))) then
  some false
  else
  f_u55_5 k k 0 0 x_
def v_u55 (k : Nat) (x_ : T5.T) : R_u55 := (f_u55 k x_).getD false
def ke_u55 (k : Nat) : Ke := (7, fun xs => match xs with
  | [_] => some [false]
  | _ => none, fun xs bs => match xs, bs with
  | [.agg qx_], [] => (decS [] T5 qx_).bind fun x_ => some (.one (res_u55 (v_u55 k x_), bo_u55 x_ (v_u55 k x_)))
  | _, _ => none)
def cs_u55 : List (Nat × List Cmd) := [(5, [.autoB [1, 3, 4] false []])]
abbrev E_u55 (x_ : T5.T) (todo : List Item) (st : St) (o : Option R_u55) : Prop := ∀ r, o = some r → Ev Try.prog Try.f7 0 todo st (res_u55 r) (bo_u55 x_ r)
theorem ev_u55 (k : Nat) (x_ : T5.T) : ∀ j, (∀ (y0 : Int) (y1 : Int) (y2 : T5.T), E_u55 x_ (placeAt Try.f7 5) (st_u55_5 y0 y1 y2) (f_u55_5 k j y0 y1 y2))
  | 0 => fun _ _ _ _ h => (nomatch h)
  | j + 1 => by
    have ih := @ev_u55 k x_ j
    · intro y0 y1 y2 r h
      rw [f_u55_5] at h
      exact go (mkK []) [] cs_u55 [.autoB [2] true []] (gT h (fun c h => gN2 h fun h => gC h 5 (ih _ _ _ _)) fun c h => gL h) (by kernel_rfl)
theorem of_u55 (k : Nat) (x_ : T5.T) (r : R_u55) (h : f_u55 k x_ = some r) : C_u55 x_ r := by
  refine CC.of (fn := Try.f7) (by kernel_rfl) (by kernel_rfl) (by kernel_rfl) (by kernel_rfl) ?_
  unfold f_u55 at h
  exact go (mkK []) [] cs_u55 [.autoB [2] true []] (gT h (fun c h => gL h) fun c h => gC h 5 ((ev_u55 k x_ k) _ _ _ _)) (by kernel_rfl)
theorem cc_u55 {k : Nat} {x_ : T5.T} (h : (f_u55 k x_).isSome = true) : C_u55 x_ (v_u55 k x_) := ccG (Φ := C_u55 x_) h (of_u55 k x_)

end
abbrev Qn := Int × Int × Int
def cntQ (q : Qn) (x : Spt) : Bool := (q.2.1 == 0 || x.2.1 == q.2.1) && decide (x.2.2 ≥ q.2.2)
theorem pos_3 (k : Nat) (q : Qn) (l0 l : List Spt) (hl : l.length ≤ 128) : ∀ (d i j : Nat) (out : List Sp), i + d = l.length → d < j → out.length ≤ i →
    f_u25_3 k q l0 j l (l.length : Int) (i : Int) out = some (out ++ ((l.drop i).filter (cntQ q)).map (fun x => x.1.2.2)) := by
  intro d
  induction d with
  | zero =>
    intro i j out hi hj ho
    obtain ⟨j, rfl⟩ : ∃ q, j = q + 1 := ⟨j - 1, by omega⟩
    rw [f_u25_3, decide_eq_false (by omega : ¬ (i : Int) < (l.length : Int)), cond_false, List.drop_of_length_le (by omega), List.filter_nil, List.map_nil, List.append_nil]
  | succ d ih =>
    intro i j out hi hj ho
    obtain ⟨j, rfl⟩ : ∃ q, j = q + 1 := ⟨j - 1, by omega⟩
    have h1 : ∀ x, f_u21 k x q = some (cntQ q x) := fun x => rfl
    have h2 : ∀ x, v_u21 k x q = cntQ q x := fun x => rfl
    rw [f_u25_3, decide_eq_true (by omega : (i : Int) < (l.length : Int)), cond_true, if_pos ⟨by omega, by omega⟩, Int.toNat_natCast, h1, h2, Option.isSome_some, if_pos rfl, if_pos (by rw [List.length_singleton]; omega), wrapS i (by omega), drop_cons' l i T4.dflt (by omega), List.filter_cons, ih (i + 1) j _ (by omega) (by omega) (by rw [List.length_append, List.length_singleton]; omega), ih (i + 1) j _ (by omega) (by omega) (by omega)]
    cases cntQ q (l.getD i T4.dflt)
    · rfl
    · rw [cond_true, if_pos rfl, List.map_cons, List.append_assoc]; rfl
theorem spotsS_len {l : List Ro} {W L id : Int} {sp : List Spt} : (spotsS l W L sp id).1.length ≤ 128 := by
  unfold spotsS
  by_cases h1 : (cutFull l W L id).2 ≠ 0
  · rw [if_pos h1]; exact Nat.zero_le _
  · rw [if_neg h1]
    by_cases h2 : spotsE sp ≠ 0
    · rw [if_pos h2]; exact Nat.zero_le _
    · rw [if_neg h2]
      by_cases h3 : (spGoS (cutFull l W L id).1 sp).length > 128
      · rw [if_pos h3]; exact Nat.zero_le _
      · rw [if_neg h3]; show (spGoS (cutFull l W L id).1 sp).length ≤ 128; omega
def posS (l : List Ro) (W L : Int) (sp : List Spt) (q : Qn) : List Sp := ((spotsS l W L sp q.1).1.filter (cntQ q)).map (fun x => x.1.2.2)
def lengthS (l : List Ro) (W L : Int) (sp : List Spt) (q : Qn) : Int × Int := if (spotsS l W L sp q.1).2 ≠ 0 then (0, (spotsS l W L sp q.1).2) else totalS (posS l W L sp q)
theorem inherit_Length_s (k : Nat) (hk : 300000 ≤ k) (l : List Ro) (web : Int × Int) (sp : List Spt) (q : Qn) : f_u20 k l web sp q = some (lengthS l web.1 web.2 sp q) := by
  have hp : f_u25 k q (spotsS l web.1 web.2 sp q.1).1 = some (posS l web.1 web.2 sp q) := by
    have hl := spotsS_len (l := l) (W := web.1) (L := web.2) (id := q.1) (sp := sp)
    have := pos_3 k q (spotsS l web.1 web.2 sp q.1).1 (spotsS l web.1 web.2 sp q.1).1 hl (spotsS l web.1 web.2 sp q.1).1.length 0 k [] (by omega) (by omega) (by simp)
    exact this
  have hv : v_u25 k q (spotsS l web.1 web.2 sp q.1).1 = posS l web.1 web.2 sp q := by unfold v_u25; rw [hp]; rfl
  unfold f_u20 lengthS
  rw [inherit_Spots_s k hk, inherit_Spots_v k hk, Option.isSome_some, if_pos rfl]
  by_cases h : (spotsS l web.1 web.2 sp q.1).2 = 0
  · rw [show ((spotsS l web.1 web.2 sp q.1).2 != 0) = false by simp [h], cond_false, if_neg (fun h' : (spotsS l web.1 web.2 sp q.1).2 ≠ 0 => h' h), hp, hv, span_Total_s k (by omega), span_Total_v k (by omega), if_pos ⟨rfl, rfl⟩]
  · rw [bne_iff_ne.2 h, if_pos h]; rfl
theorem inherit_Length_v (k : Nat) (hk : 300000 ≤ k) (l : List Ro) (web : Int × Int) (sp : List Spt) (q : Qn) : v_u20 k l web sp q = lengthS l web.1 web.2 sp q := by
  unfold v_u20; rw [inherit_Length_s k hk]; rfl
def topS : List Spt → Int → Int
  | [], n => n
  | x :: t, n => topS t (if x.2.2 > n then x.2.2 else n)
theorem Worst_6 (k : Nat) (l : List Spt) (hl : l.length ≤ 128) : ∀ (d i j : Nat) (n : Int), i + d = l.length → d < j → f_u23_6 k j n l (l.length : Int) (i : Int) = some (topS (l.drop i) n, 0) := by
  intro d
  induction d with
  | zero =>
    intro i j n hi hj
    obtain ⟨j, rfl⟩ : ∃ q, j = q + 1 := ⟨j - 1, by omega⟩
    rw [f_u23_6, decide_eq_false (by omega : ¬ (i : Int) < (l.length : Int)), cond_false, List.drop_of_length_le (by omega)]; rfl
  | succ d ih =>
    intro i j n hi hj
    obtain ⟨j, rfl⟩ : ∃ q, j = q + 1 := ⟨j - 1, by omega⟩
    rw [f_u23_6, decide_eq_true (by omega : (i : Int) < (l.length : Int)), cond_true, if_pos ⟨by omega, by omega⟩, Int.toNat_natCast, wrapS i (by omega), drop_cons' l i T4.dflt (by omega), topS, ih (i + 1) j _ (by omega) (by omega)]
def worstS (l : List Ro) (W L : Int) (sp : List Spt) (id : Int) : Int × Int := if (spotsS l W L sp id).2 ≠ 0 then (0, (spotsS l W L sp id).2) else (topS (spotsS l W L sp id).1 0, 0)
theorem inherit_Worst_s (k : Nat) (hk : 300000 ≤ k) (l : List Ro) (web : Int × Int) (sp : List Spt) (id : Int) : f_u23 k l web sp id = some (worstS l web.1 web.2 sp id) := by
  have hl := spotsS_len (l := l) (W := web.1) (L := web.2) (id := id) (sp := sp)
  unfold f_u23 worstS
  rw [inherit_Spots_s k hk, inherit_Spots_v k hk, Option.isSome_some, if_pos rfl]
  by_cases h : (spotsS l web.1 web.2 sp id).2 = 0
  · rw [show ((spotsS l web.1 web.2 sp id).2 != 0) = false by simp [h], cond_false, if_neg (fun h' : (spotsS l web.1 web.2 sp id).2 ≠ 0 => h' h)]
    exact Worst_6 k _ hl (spotsS l web.1 web.2 sp id).1.length 0 k 0 (by omega) (by omega)
  · rw [bne_iff_ne.2 h, if_pos h]; rfl
theorem inherit_Worst_v (k : Nat) (hk : 300000 ≤ k) (l : List Ro) (web : Int × Int) (sp : List Spt) (id : Int) : v_u23 k l web sp id = worstS l web.1 web.2 sp id := by
  unfold v_u23; rw [inherit_Worst_s k hk]; rfl
theorem eqT_rc (p : Rc4) : eqT T3 p p = true := by
  show ((p.1 == p.1) && ((p.2.1 == p.2.1) && ((p.2.2.1 == p.2.2.1) && (p.2.2.2 == p.2.2.2)))) = true
  simp
theorem eqT_spt (p : Spt) : eqT T4 p p = true := by
  show (((p.1.1 == p.1.1) && ((p.1.2.1 == p.1.2.1) && ((p.1.2.2.1 == p.1.2.2.1) && (p.1.2.2.2 == p.1.2.2.2)))) && ((p.2.1 == p.2.1) && (p.2.2 == p.2.2))) = true
  simp
theorem same15 (k : Nat) (a : List Rc4) (hl : a.length ≤ 300) (hk : 400 ≤ k) : f_u56 k a a = some true := by
  have : ∀ (d i j : Nat), i + d = a.length → d < j → f_u56_4 k j a a (i : Int) = some true := by
    intro d
    induction d with
    | zero =>
      intro i j hi hj
      obtain ⟨j, rfl⟩ : ∃ q, j = q + 1 := ⟨j - 1, by omega⟩
      rw [f_u56_4, decide_eq_false (by omega : ¬ (i : Int) < (a.length : Int)), cond_false]
    | succ d ih =>
      intro i j hi hj
      obtain ⟨j, rfl⟩ : ∃ q, j = q + 1 := ⟨j - 1, by omega⟩
      rw [f_u56_4, decide_eq_true (by omega : (i : Int) < (a.length : Int)), cond_true, if_pos ⟨by omega, by omega, by omega, by omega⟩, eqT_rc, wrapS i (by omega)]
      exact ih (i + 1) j (by omega) (by omega)
  unfold f_u56
  rw [bne_self_eq_false, cond_false]
  exact this a.length 0 k (by omega) (by omega)
theorem same36 (k : Nat) (a : List Spt) (hl : a.length ≤ 300) (hk : 400 ≤ k) : f_u57 k a a = some true := by
  have : ∀ (d i j : Nat), i + d = a.length → d < j → f_u57_4 k j a a (i : Int) = some true := by
    intro d
    induction d with
    | zero =>
      intro i j hi hj
      obtain ⟨j, rfl⟩ : ∃ q, j = q + 1 := ⟨j - 1, by omega⟩
      rw [f_u57_4, decide_eq_false (by omega : ¬ (i : Int) < (a.length : Int)), cond_false]
    | succ d ih =>
      intro i j hi hj
      obtain ⟨j, rfl⟩ : ∃ q, j = q + 1 := ⟨j - 1, by omega⟩
      rw [f_u57_4, decide_eq_true (by omega : (i : Int) < (a.length : Int)), cond_true, if_pos ⟨by omega, by omega, by omega, by omega⟩, eqT_spt, wrapS i (by omega)]
      exact ih (i + 1) j (by omega) (by omega)
  unfold f_u57
  rw [bne_self_eq_false, cond_false]
  exact this a.length 0 k (by omega) (by omega)
theorem Nr.pos : ∀ {b : Int} {l : List Sp}, Nr b l → ∀ s ∈ l, s.1 < s.2
  | _, [], _, s, hs => by simp at hs
  | b, u :: t, ⟨_, h2, h3⟩, s, hs => by
    rcases List.mem_cons.1 hs with e | h
    · rw [e]; exact h2
    · exact Nr.pos h3 s h
theorem find_mem {m : List Rn} (hc : Chk m) {x : Spt} (hx : SpotOk x) {s : Sp} (hs : s ∈ (findS m x.1.2.2).1) : 0 ≤ s.1 ∧ s.1 < s.2 ∧ s.2 ≤ 17179869184 := by
  obtain ⟨⟨a, b, c, d, e, f⟩, _, _, _, _⟩ := hx
  unfold findS at hs
  rw [if_neg (fun h => h (chk_zero.2 hc)), if_neg (by omega)] at hs
  have h1 := (nf_in (find_in hc x.1.2.2)).mem s hs
  have h2 := (nf_nr (find_in hc x.1.2.2)).pos s hs
  exact ⟨h1.1, h2, h1.2.2⟩
theorem fndl_mem {c : Ch} {x y : Spt} (h : y ∈ fndl c x) : max x.1.1 c.1 < min x.1.2.1 (c.1 + c.2.1) ∧ ∃ s ∈ (findS c.2.2.2 x.1.2.2).1, y = ((acL c (max x.1.1 c.1) (min x.1.2.1 (c.1 + c.2.1)), acR c (max x.1.1 c.1) (min x.1.2.1 (c.1 + c.2.1)), s), x.2) := by
  unfold fndl at h
  by_cases h1 : max x.1.1 c.1 ≥ min x.1.2.1 (c.1 + c.2.1)
  · rw [if_pos h1] at h; exact absurd h (List.not_mem_nil)
  · rw [if_neg h1] at h
    obtain ⟨s, hs, e⟩ := List.mem_map.1 h
    exact ⟨by omega, s, hs, e.symm⟩
theorem spGo_mem {c : Ch} : ∀ {sp : List Spt} {y : Spt}, y ∈ spGoS c sp → ∃ x ∈ sp, y ∈ fndl c x
  | [], y, h => by simp [spGoS] at h
  | x :: t, y, h => by
    unfold spGoS at h
    rcases List.mem_append.1 h with h | h
    · exact ⟨x, by simp, h⟩
    · obtain ⟨z, hz, hy⟩ := spGo_mem h
      exact ⟨z, by simp [hz], hy⟩
theorem ac_in {c : Ch} {a b : Int} (h0 : c.1 ≤ a) (h1 : a < b) (h2 : b ≤ c.1 + c.2.1) : 0 ≤ acL c a b ∧ acL c a b < acR c a b ∧ acR c a b ≤ c.2.1 := by
  unfold acL acR
  cases c.2.2.1
  · rw [if_neg (by decide), if_neg (by decide)]; omega
  · rw [if_pos rfl, if_pos rfl]; omega
theorem imgAt_lt {r : Rn} {t : List Rn} {x : Int} (h : x < r.2.1) : imgAt (r :: t) x = img r x := by unfold imgAt; rw [if_pos h]
theorem imgAt_ge {r : Rn} {t : List Rn} {x : Int} (h : ¬ x < r.2.1) : imgAt (r :: t) x = imgAt t (x - r.2.1) := by rw [imgAt, if_neg h]
/-! ### what lies in a span -/
theorem fnd1_has (r : Rn) (g : good r) (a : Int) (s : Sp) (x : Int) : has (fnd1 r a s) x ↔ a ≤ x ∧ x < a + r.2.1 ∧ s.1 ≤ img r (x - a) ∧ img r (x - a) < s.2 := by
  obtain ⟨l1, l2, l3, l4⟩ := g.lohi
  have e : r.2.2 = true ∧ lo r = r.1 - r.2.1 + 1 ∧ Go.AM.hi r = r.1 ∧ img r (x - a) = r.1 - (x - a) ∨ r.2.2 = false ∧ lo r = r.1 ∧ Go.AM.hi r = r.1 + r.2.1 - 1 ∧ img r (x - a) = r.1 + (x - a) := by
    unfold lo Go.AM.hi img
    cases r.2.2
    · exact .inr ⟨rfl, rfl, rfl, rfl⟩
    · exact .inl ⟨rfl, rfl, rfl, rfl⟩
  unfold fnd1
  generalize lo r = p at *
  generalize Go.AM.hi r = q at *
  generalize img r (x - a) = z at *
  by_cases h : max p s.1 < min (q + 1) s.2
  · rw [if_pos h]
    simp only [has, or_false]
    rcases e with ⟨e, e1, e2, e3⟩ | ⟨e, e1, e2, e3⟩ <;> simp only [e, if_true, if_false, Bool.false_eq_true] <;> omega
  · rw [if_neg h]
    simp only [has, false_iff]
    rcases e with ⟨e, e1, e2, e3⟩ | ⟨e, e1, e2, e3⟩ <;> omega
theorem fndS_has : ∀ (m : List Rn) (a : Int) (s : Sp) (x : Int), goods m → (has (fndS m a s) x ↔ a ≤ x ∧ x < a + lenS m ∧ s.1 ≤ imgAt m (x - a) ∧ imgAt m (x - a) < s.2)
  | [], a, s, x, _ => by
    simp only [fndS, has, lenS, false_iff]; omega
  | r :: t, a, s, x, ⟨g1, g2⟩ => by
    have h1 := g1.1
    have hl := lenS_nonneg g2
    rw [fndS_cons, has_append, fnd1_has r g1, fndS_has t (a + r.2.1) s x g2, lenS]
    by_cases hx : x - a < r.2.1
    · rw [imgAt_lt hx]; omega
    · rw [imgAt_ge hx, show x - (a + r.2.1) = x - a - r.2.1 by omega]; omega
theorem hasT_nf {l : List Sp} (h : In 0 17179869184 l) (x : Int) : hasT (nf l) x = hasT l x := by
  rw [Bool.eq_iff_iff, hasT_iff, hasT_iff, nf_has h]
theorem tot_nf {l : List Sp} (h : In 0 17179869184 l) : tot (nf l) = (cnt (hasT l) NN : Int) := by
  rw [tot_cnt (N := NN) (nf l) (-1) (nf_nr h) (by omega) (fun s hs => ((nf_in h).mem s hs).2.2)]
  exact congrArg Int.ofNat (cnt_congr NN fun x _ _ => hasT_nf h x)
theorem cut_err {l : List Ro} {W L id : Int} (h : (cutFull l W L id).2 = 0) : Kno l W L id := by
  refine errS_zero.1 ?_
  unfold cutFull at h
  by_cases h2 : errS l W L id = 0
  · exact h2
  · rw [if_pos h2] at h; exact absurd h h2
end Go.AM
namespace Go.AM
open Go Go.Proofs
noncomputable section
end
end Go.AM
namespace Go.AM
open Go Go.Proofs
noncomputable section
end
end Go.AM
namespace Go.AM
open Go Go.Proofs
noncomputable section
abbrev R_u63 : Type := T3.T
def res_u63 (r : R_u63) : AV := .agg (rvs (enc T3 r))
def bo_u63 (r_ : T3.T) (r : R_u63) : List (Nat × Blk) := []
def args_u63 (r_ : T3.T) : List AV := [.agg (rvs (enc T3 r_))]
def bin_u63 (r_ : T3.T) : List Blk := []
abbrev C_u63 (r_ : T3.T) (r : R_u63) : Prop := CC Try.prog 37 (args_u63 r_) (bin_u63 r_) (res_u63 r) (bo_u63 r_ r)
def f_u63 (k : Nat) (r_ : T3.T) : Option R_u63 :=
  bif (decide (r_.1 ≥ r_.2.1) || decide (r_.2.2.1 ≥ r_.2.2.2)) then
  some ((0, (0, (0, 0))))
  else
  some r_
def v_u63 (k : Nat) (r_ : T3.T) : R_u63 := (f_u63 k r_).getD (T3).dflt
def ke_u63 (k : Nat) : Ke := (37, fun xs => match xs with
  | [_] => some [false]
  | _ => none, fun xs bs => match xs, bs with
  | [.agg qr_], [] => (decS [] T3 qr_).bind fun r_ => some (.one (res_u63 (v_u63 k r_), bo_u63 r_ (v_u63 k r_)))
  | _, _ => none)
theorem of_u63 (k : Nat) (r_ : T3.T) (r : R_u63) (h : f_u63 k r_ = some r) : C_u63 r_ r := by
  refine CC.of (fn := Try.f37) (by kernel_rfl) (by kernel_rfl) (by kernel_rfl) (by kernel_rfl) ?_
  unfold f_u63 at h
  exact go (mkK []) [] [] [.autoB [2] true []] (gT h (fun c h => gL h) fun c h => gL h) (by kernel_rfl)
theorem cc_u63 {k : Nat} {r_ : T3.T} (h : (f_u63 k r_).isSome = true) : C_u63 r_ (v_u63 k r_) := ccG (Φ := C_u63 r_) h (of_u63 k r_)
abbrev R_u60 : Type := T3.T × Bool
def res_u60 (r : R_u60) : AV := .tup [.agg (rvs (enc T3 r.1)), .r (.v (.bool r.2))]
def bo_u60 (a_ : T3.T) (b_ : T3.T) (r : R_u60) : List (Nat × Blk) := []
def args_u60 (a_ : T3.T) (b_ : T3.T) : List AV := [.agg (rvs (enc T3 a_)), .agg (rvs (enc T3 b_))]
def bin_u60 (a_ : T3.T) (b_ : T3.T) : List Blk := []
abbrev C_u60 (a_ : T3.T) (b_ : T3.T) (r : R_u60) : Prop := CC Try.prog 14 (args_u60 a_ b_) (bin_u60 a_ b_) (res_u60 r) (bo_u60 a_ b_ r)
def f_u60 (k : Nat) (a_ : T3.T) (b_ : T3.T) : Option R_u60 :=
  if ((f_u63 k (if b_.1 > a_.1 then b_.1 else a_.1, if b_.2.1 < a_.2.1 then b_.2.1 else a_.2.1, if b_.2.2.1 > a_.2.2.1 then b_.2.2.1 else a_.2.2.1, if b_.2.2.2 < a_.2.2.2 then b_.2.2.2 else a_.2.2.2)).isSome = true) then
  some ((v_u63 k (if b_.1 > a_.1 then b_.1 else a_.1, if b_.2.1 < a_.2.1 then b_.2.1 else a_.2.1, if b_.2.2.1 > a_.2.2.1 then b_.2.2.1 else a_.2.2.1, if b_.2.2.2 < a_.2.2.2 then b_.2.2.2 else a_.2.2.2), !eqT T3 (v_u63 k (if b_.1 > a_.1 then b_.1 else a_.1, if b_.2.1 < a_.2.1 then b_.2.1 else a_.2.1, if b_.2.2.1 > a_.2.2.1 then b_.2.2.1 else a_.2.2.1, if b_.2.2.2 < a_.2.2.2 then b_.2.2.2 else a_.2.2.2)) (0, 0, 0, 0)))
  else none
def v_u60 (k : Nat) (a_ : T3.T) (b_ : T3.T) : R_u60 := (f_u60 k a_ b_).getD ((T3).dflt, false)
def ke_u60 (k : Nat) : Ke := (14, fun xs => match xs with
  | [_, _] => some [false, false]
  | _ => none, fun xs bs => match xs, bs with
  | [.agg qa_, .agg qb_], [] => (decS [] T3 qa_).bind fun a_ => (decS [] T3 qb_).bind fun b_ => some (.one (res_u60 (v_u60 k a_ b_), bo_u60 a_ b_ (v_u60 k a_ b_)))
  | _, _ => none)
theorem of_u60 (k : Nat) (a_ : T3.T) (b_ : T3.T) (r : R_u60) (h : f_u60 k a_ b_ = some r) : C_u60 a_ b_ r := by
  refine CC.of (fn := Try.f14) (by kernel_rfl) (by kernel_rfl) (by kernel_rfl) (by kernel_rfl) ?_
  unfold f_u60 at h
  exact go (mkK [ke_u63 k]) [] [] [.autoB [4, 5] true []] (gN1 h (fun q => cc_u63 q) fun h => gL h) (by kernel_rfl)
theorem cc_u60 {k : Nat} {a_ : T3.T} {b_ : T3.T} (h : (f_u60 k a_ b_).isSome = true) : C_u60 a_ b_ (v_u60 k a_ b_) := ccG (Φ := C_u60 a_ b_) h (of_u60 k a_ b_)
abbrev R_u61 : Type := Bool
def res_u61 (r : R_u61) : AV := .r (.v (.bool r))
def bo_u61 (a_ : T3.T) (b_ : T3.T) (r : R_u61) : List (Nat × Blk) := []
def args_u61 (a_ : T3.T) (b_ : T3.T) : List AV := [.agg (rvs (enc T3 a_)), .agg (rvs (enc T3 b_))]
def bin_u61 (a_ : T3.T) (b_ : T3.T) : List Blk := []
abbrev C_u61 (a_ : T3.T) (b_ : T3.T) (r : R_u61) : Prop := CC Try.prog 17 (args_u61 a_ b_) (bin_u61 a_ b_) (res_u61 r) (bo_u61 a_ b_ r)
def f_u61 (k : Nat) (a_ : T3.T) (b_ : T3.T) : Option R_u61 :=
  if ((f_u63 k a_).isSome = true) then
  bif (eqT T3 (v_u63 k a_) ((0 : Int), (0 : Int), (0 : Int), (0 : Int))) then
  some true
  else
  if ((f_u60 k a_ b_).isSome = true) then
  some ((v_u60 k a_ b_).2 && eqT T3 (v_u60 k a_ b_).1 a_)
  else none
  else none
def v_u61 (k : Nat) (a_ : T3.T) (b_ : T3.T) : R_u61 := (f_u61 k a_ b_).getD false
def ke_u61 (k : Nat) : Ke := (17, fun xs => match xs with
  | [_, _] => some [false, false]
  | _ => none, fun xs bs => match xs, bs with
  | [.agg qa_, .agg qb_], [] => (decS [] T3 qa_).bind fun a_ => (decS [] T3 qb_).bind fun b_ => some (.one (res_u61 (v_u61 k a_ b_), bo_u61 a_ b_ (v_u61 k a_ b_)))
  | _, _ => none)
theorem of_u61 (k : Nat) (a_ : T3.T) (b_ : T3.T) (r : R_u61) (h : f_u61 k a_ b_ = some r) : C_u61 a_ b_ r := by
  refine CC.of (fn := Try.f17) (by kernel_rfl) (by kernel_rfl) (by kernel_rfl) (by kernel_rfl) ?_
  unfold f_u61 at h
  exact go (mkK [ke_u63 k, ke_u60 k]) [] [] [.autoB [4] true []] (gN1 h (fun q => cc_u63 q) fun h => gT h (fun c h => gL h) fun c h => gN1 h (fun q => cc_u60 q) fun h => gL h) (by kernel_rfl)
theorem cc_u61 {k : Nat} {a_ : T3.T} {b_ : T3.T} (h : (f_u61 k a_ b_).isSome = true) : C_u61 a_ b_ (v_u61 k a_ b_) := ccG (Φ := C_u61 a_ b_) h (of_u61 k a_ b_)
abbrev R_u3 : Type := Int × Int
def res_u3 (r : R_u3) : AV := .tup [.r (.v (.int .i64 r.1)), .r (.v (.int .i64 r.2))]
def bo_u3 (l_ : List (T4).T) (r : R_u3) : List (Nat × Blk) := []
def args_u3 (l_ : List (T4).T) : List AV := [.r (.ro T4 l_)]
def bin_u3 (l_ : List (T4).T) : List Blk := []
abbrev C_u3 (l_ : List (T4).T) (r : R_u3) : Prop := CC Try.prog 18 (args_u3 l_) (bin_u3 l_) (res_u3 r) (bo_u3 l_ r)
def st_u3_6 (y0 : Int) (y1 : List (T4).T) (y2 : Int) (y3 : Int) : St := ⟨mkS 25 [(5, .r (.v (.int .i64 y0))), (13, .r (.ro T4 y1)), (14, .r (.v (.int .i64 y2))), (15, .r (.v (.int .i64 y3)))], []⟩
def f_u3_6 (k : Nat) : Nat → Int → List (T4).T → Int → Int → Option R_u3
  | 0, _, _, _, _ => none
  | j + 1, y0, y1, y2, y3 =>
  bif (decide (y3 < y2)) then
  if (0 ≤ y3) ∧ (y3 < (↑y1.length : Int)) then
  f_u3_6 k j ((if (y1.getD y3.toNat T4.dflt).2.2 > y0 then (y1.getD y3.toNat T4.dflt).2.2 else y0)) y1 y2 ((IntKind.i64.wrap (y3 + 1)))
  else none
  else
  some ((y0, 0))
def f_u3 (k : Nat) (l_ : List (T4).T) : Option R_u3 :=
  if ((f_u1 k l_).isSome = true) then
  bif (v_u1 k l_ != (0 : Int)) then
  some ((0, v_u1 k l_))
  else
  f_u3_6 k k 0 l_ ((↑l_.length : Int)) 0
  else none
def v_u3 (k : Nat) (l_ : List (T4).T) : R_u3 := (f_u3 k l_).getD (0, 0)
def ke_u3 (k : Nat) : Ke := (18, fun xs => match xs with
  | [_] => some [false]
  | _ => none, fun xs bs => match xs, bs with
  | [.r (.ro tl__ ql_)], [] => (castL tl__ T4 ql_).bind fun l_ => some (.one (res_u3 (v_u3 k l_), bo_u3 l_ (v_u3 k l_)))
  | _, _ => none)
def cs_u3 : List (Nat × List Cmd) := [(6, [.autoB [5, 13, 14, 15] false []])]
abbrev E_u3 (l_ : List (T4).T) (todo : List Item) (st : St) (o : Option R_u3) : Prop := ∀ r, o = some r → Ev Try.prog Try.f18 0 todo st (res_u3 r) (bo_u3 l_ r)
theorem ev_u3 (k : Nat) (l_ : List (T4).T) : ∀ j, (∀ (y0 : Int) (y1 : List (T4).T) (y2 : Int) (y3 : Int), E_u3 l_ (placeAt Try.f18 6) (st_u3_6 y0 y1 y2 y3) (f_u3_6 k j y0 y1 y2 y3))
  | 0 => fun _ _ _ _ _ h => (nomatch h)
  | j + 1 => by
    have ih := @ev_u3 k l_ j
    · intro y0 y1 y2 y3 r h
      rw [f_u3_6] at h
      exact go (mkK [ke_u1 k]) [] cs_u3 [.autoB [2, 3] true []] (gT h (fun c h => gN2 h fun h => gC h 6 (ih _ _ _ _ _)) fun c h => gL h) (by kernel_rfl)
theorem of_u3 (k : Nat) (l_ : List (T4).T) (r : R_u3) (h : f_u3 k l_ = some r) : C_u3 l_ r := by
  refine CC.of (fn := Try.f18) (by kernel_rfl) (by kernel_rfl) (by kernel_rfl) (by kernel_rfl) ?_
  unfold f_u3 at h
  exact go (mkK [ke_u1 k]) [] cs_u3 [.autoB [2, 3] true []] (gN1 h (fun q => cc_u1 q) fun h => gT h (fun c h => gL h) fun c h => gC h 6 ((ev_u3 k l_ k) _ _ _ _ _)) (by kernel_rfl)
theorem cc_u3 {k : Nat} {l_ : List (T4).T} (h : (f_u3 k l_).isSome = true) : C_u3 l_ (v_u3 k l_) := ccG (Φ := C_u3 l_) h (of_u3 k l_)
abbrev R_u2 : Type := List (T4).T × Int
def res_u2 (r : R_u2) : AV := .tup [.r (.ro T4 r.1), .r (.v (.int .i64 r.2))]
def bo_u2 (l_ : List (T4).T) (r_ : T3.T) (r : R_u2) : List (Nat × Blk) := []
def args_u2 (l_ : List (T4).T) (r_ : T3.T) : List AV := [.r (.ro T4 l_), .agg (rvs (enc T3 r_))]
def bin_u2 (l_ : List (T4).T) (r_ : T3.T) : List Blk := []
abbrev C_u2 (l_ : List (T4).T) (r_ : T3.T) (r : R_u2) : Prop := CC Try.prog 19 (args_u2 l_ r_) (bin_u2 l_ r_) (res_u2 r) (bo_u2 l_ r_ r)
def st_u2_9 (y0 : List (T4).T) (y1 : Int) (y2 : Int) (y3 : T3.T) (y4 : List (T4).T) : St := ⟨mkS 48 [(3, .ptr 1000000 0 0), (8, .own 1000001 0), (23, .r (.ro T4 y0)), (24, .r (.v (.int .i64 y1))), (25, .r (.v (.int .i64 y2)))], [(1000000, 0, .var 40 (rvs (enc T3 y3))), (1000001, 0, .row 44 T4 y4)]⟩
def f_u2_9 (k : Nat) : Nat → List (T4).T → Int → Int → T3.T → List (T4).T → Option R_u2
  | 0, _, _, _, _, _ => none
  | j + 1, y0, y1, y2, y3, y4 =>
  bif (decide (y2 < y1)) then
  if (0 ≤ y2) ∧ (y2 < (↑y0.length : Int)) then
  if ((f_u60 k (y0.getD y2.toNat T4.dflt).1 y3).isSome = true) then
  bif (v_u60 k (y0.getD y2.toNat T4.dflt).1 y3).2 then
  if ((y4.length + [((v_u60 k (y0.getD y2.toNat T4.dflt).1 y3).1, (y0.getD y2.toNat T4.dflt).2)].length) * (48 : Nat) ≤ (140737488355328 : Nat)) then
  f_u2_9 k j y0 y1 ((IntKind.i64.wrap (y2 + 1))) y3 ((y4 ++ [((v_u60 k (y0.getD y2.toNat T4.dflt).1 y3).1, (y0.getD y2.toNat T4.dflt).2)]))
  else none
  else
  f_u2_9 k j y0 y1 ((IntKind.i64.wrap (y2 + 1))) y3 y4
  else none
  else none
  else
  some ((y4, 0))
def f_u2 (k : Nat) (l_ : List (T4).T) (r_ : T3.T) : Option R_u2 :=
  if ((f_u59 k r_).isSome = true) then
  bif (v_u59 k r_ != (0 : Int)) then
  some (([], v_u59 k r_))
  else
  if ((f_u1 k l_).isSome = true) then
  bif (v_u1 k l_ != (0 : Int)) then
  some (([], v_u1 k l_))
  else
  f_u2_9 k k l_ ((↑l_.length : Int)) 0 r_ ([])
  else none
  else none
def v_u2 (k : Nat) (l_ : List (T4).T) (r_ : T3.T) : R_u2 := (f_u2 k l_ r_).getD ([], 0)
def ke_u2 (k : Nat) : Ke := (19, fun xs => match xs with
  | [_, _] => some [false, false]
  | _ => none, fun xs bs => match xs, bs with
  | [.r (.ro tl__ ql_), .agg qr_], [] => (castL tl__ T4 ql_).bind fun l_ => (decS [] T3 qr_).bind fun r_ => some (.one (res_u2 (v_u2 k l_ r_), bo_u2 l_ r_ (v_u2 k l_ r_)))
  | _, _ => none)
def cs_u2 : List (Nat × List Cmd) := [(9, [.row 8 44 T4, .autoB [3, 8, 23, 24, 25] false []])]
abbrev E_u2 (l_ : List (T4).T) (r_ : T3.T) (todo : List Item) (st : St) (o : Option R_u2) : Prop := ∀ r, o = some r → Ev Try.prog Try.f19 0 todo st (res_u2 r) (bo_u2 l_ r_ r)
theorem ev_u2 (k : Nat) (l_ : List (T4).T) (r_ : T3.T) : ∀ j, (∀ (y0 : List (T4).T) (y1 : Int) (y2 : Int) (y3 : T3.T) (y4 : List (T4).T), E_u2 l_ r_ (placeAt Try.f19 9) (st_u2_9 y0 y1 y2 y3 y4) (f_u2_9 k j y0 y1 y2 y3 y4))
  | 0 => fun _ _ _ _ _ _ h => (nomatch h)
  | j + 1 => by
    have ih := @ev_u2 k l_ r_ j
    · intro y0 y1 y2 y3 y4 r h
      rw [f_u2_9] at h
      exact go (mkK [ke_u59 k, ke_u1 k, ke_u60 k]) [] cs_u2 [.frz 4 false (RTy.list T4), .autoB [4, 5] true []] (gT h (fun c h => gN2 h fun h => gN1 h (fun q => cc_u60 q) fun h => gT h (fun c h => gN1 h id fun h => gC h 9 (ih _ _ _ _ _ _)) fun c h => gC h 9 (ih _ _ _ _ _ _)) fun c h => gL h) (by kernel_rfl)
theorem of_u2 (k : Nat) (l_ : List (T4).T) (r_ : T3.T) (r : R_u2) (h : f_u2 k l_ r_ = some r) : C_u2 l_ r_ r := by
  refine CC.of (fn := Try.f19) (by kernel_rfl) (by kernel_rfl) (by kernel_rfl) (by kernel_rfl) ?_
  unfold f_u2 at h
  exact go (mkK [ke_u59 k, ke_u1 k, ke_u60 k]) [] cs_u2 [.frz 4 false (RTy.list T4), .autoB [4, 5] true []] (gN1 h (fun q => cc_u59 q) fun h => gT h (fun c h => gL h) fun c h => gN1 h (fun q => cc_u1 q) fun h => gT h (fun c h => gL h) fun c h => gC h 9 ((ev_u2 k l_ r_ k) _ _ _ _ _ _)) (by kernel_rfl)
theorem cc_u2 {k : Nat} {l_ : List (T4).T} {r_ : T3.T} (h : (f_u2 k l_ r_).isSome = true) : C_u2 l_ r_ (v_u2 k l_ r_) := ccG (Φ := C_u2 l_ r_) h (of_u2 k l_ r_)
end
end Go.AM
namespace Go.AM
open Go Go.Proofs
noncomputable section
end
/-! ### rectangles -/
def someB (r : Rc4) : Bool := decide (r.1 < r.2.1 ∧ r.2.2.1 < r.2.2.2)
def someS (r : Rc4) : Rc4 := if someB r = true then r else (0, 0, 0, 0)
def meetR (a b : Rc4) : Rc4 := (max a.1 b.1, min a.2.1 b.2.1, max a.2.2.1 b.2.2.1, min a.2.2.2 b.2.2.2)
theorem rect_some_s (k : Nat) (r : Rc4) : f_u63 k r = some (someS r) := by
  unfold f_u63 someS someB
  by_cases h : r.1 < r.2.1 ∧ r.2.2.1 < r.2.2.2
  · rw [decide_eq_true h, decide_eq_false (by omega : ¬ r.1 ≥ r.2.1), decide_eq_false (by omega : ¬ r.2.2.1 ≥ r.2.2.2)]; rfl
  · rw [decide_eq_false h]
    by_cases h1 : r.1 ≥ r.2.1
    · rw [decide_eq_true h1]; rfl
    · rw [decide_eq_true (by omega : r.2.2.1 ≥ r.2.2.2), Bool.or_true]; rfl
theorem rect_some_v (k : Nat) (r : Rc4) : v_u63 k r = someS r := by unfold v_u63; rw [rect_some_s]; rfl
theorem eqT_rect (a b : Rc4) : eqT T3 a b = decide (a = b) := by
  show ((a.1 == b.1) && ((a.2.1 == b.2.1) && ((a.2.2.1 == b.2.2.1) && (a.2.2.2 == b.2.2.2)))) = decide (a = b)
  rw [Bool.eq_iff_iff, decide_eq_true_iff]
  simp only [Bool.and_eq_true, beq_iff_eq, Prod.ext_iff]
theorem someS_zero (r : Rc4) : (!eqT T3 (someS r) (0, 0, 0, 0)) = someB r := by
  rw [eqT_rect]
  unfold someS
  cases h : someB r
  · rfl
  · rw [if_pos rfl, decide_eq_false]
    · rfl
    · intro e
      have h := of_decide_eq_true h
      rw [e] at h
      exact absurd h.1 (by decide)
theorem rect_Common_s (k : Nat) (a b : Rc4) : f_u60 k a b = some (someS (meetR a b), someB (meetR a b)) := by
  unfold f_u60
  simp only [max_if, min_if2]
  rw [rect_some_s, rect_some_v, Option.isSome_some, if_pos rfl]
  exact congrArg (fun z => some (someS (meetR a b), z)) (someS_zero (meetR a b))
theorem rect_Common_v (k : Nat) (a b : Rc4) : v_u60 k a b = (someS (meetR a b), someB (meetR a b)) := by unfold v_u60; rw [rect_Common_s]; rfl
theorem rectE_ok {r : Rc4} (h : RectOk r) : rectE r = 0 := by
  obtain ⟨a, b, c, d, e, f⟩ := h
  unfold rectE rectB
  rw [decide_eq_false (by omega), decide_eq_false (by omega), decide_eq_false (by omega), decide_eq_false (by omega), decide_eq_false (by omega), decide_eq_false (by omega)]
  rfl
theorem rect_Within_s (k : Nat) {a b : Rc4} (h0 : a.1 < a.2.1) (h1 : a.2.2.1 < a.2.2.2) (h2 : b.1 ≤ a.1) (h3 : a.2.1 ≤ b.2.1) (h4 : b.2.2.1 ≤ a.2.2.1) (h5 : a.2.2.2 ≤ b.2.2.2) : f_u61 k a b = some true := by
  have ea : someB a = true := decide_eq_true ⟨h0, h1⟩
  have em : meetR a b = a := by
    unfold meetR
    rw [show max a.1 b.1 = a.1 by omega, show min a.2.1 b.2.1 = a.2.1 by omega, show max a.2.2.1 b.2.2.1 = a.2.2.1 by omega, show min a.2.2.2 b.2.2.2 = a.2.2.2 by omega]
  have hz := someS_zero a
  unfold f_u61
  rw [rect_some_s, rect_some_v, rect_Common_s, rect_Common_v, em, Option.isSome_some, if_pos rfl]
  rw [ea] at hz
  have es : someS a = a := by unfold someS; rw [if_pos ea]
  rw [es] at hz ⊢
  rw [show eqT T3 a ((0 : Int), (0 : Int), (0 : Int), (0 : Int)) = false by simpa using hz, eqT_rc]
  dsimp only
  rw [ea]; rfl
theorem rect_Within_v (k : Nat) {a b : Rc4} (h0 : a.1 < a.2.1) (h1 : a.2.2.1 < a.2.2.2) (h2 : b.1 ≤ a.1) (h3 : a.2.1 ≤ b.2.1) (h4 : b.2.2.1 ≤ a.2.2.1) (h5 : a.2.2.2 ≤ b.2.2.2) : v_u61 k a b = true := by
  unfold v_u61; rw [rect_Within_s k h0 h1 h2 h3 h4 h5]; rfl

def sa : Ro := (1, 0, 20, 50, false, [(899, 400, true)])
def sb : Ro := (2, 1, 0, 30, true, [(0, 100, false), (150, 50, false)])
def sl : List Ro := [sa, sb]
def ssp : List Spt := [((10, 45, 680, 820), 3, 40)]
theorem sb_single : singleS [(0, 100, false), (150, 50, false)] = true := by
  have hg : goods [((0, 100, false) : Rn), (150, 50, false)] := ⟨by decide, by decide, trivial⟩
  have e : nf ([((0, 100, false) : Rn), (150, 50, false)].map spn) = [((0, 100, false) : Rn), (150, 50, false)].map spn := nf_self (spn_in hg) ⟨by decide, by decide, by decide, by decide, trivial⟩
  unfold singleS
  rw [e]
  decide
theorem sl_reg : Reg sl 100 1000 := by
  have h1 : singleS [(899, 400, true)] = true := single_one _ (by decide) (by decide) ⟨by decide, by decide, trivial⟩
  refine ⟨by decide, by decide, by decide, ?_⟩
  have o1 : Okp 100 1000 ([] ++ [sa]) := .snoc [] sa .nil ⟨by decide, by decide, .inl rfl, ⟨by decide, by decide, by decide, chk_zero.1 (by decide), by decide, h1, by decide⟩⟩ rfl rfl
  exact .snoc [sa] sb o1 ⟨by decide, by decide, .inr ⟨sa, rfl⟩, ⟨by decide, by decide, by decide, chk_zero.1 (by decide), by decide, sb_single, by decide⟩⟩ rfl rfl
theorem sl_err1 : errS sl 100 1000 1 = 0 := errS_zero.2 ⟨sl_reg, .inr ⟨sa, rfl⟩⟩
theorem sl_err2 : errS sl 100 1000 2 = 0 := errS_zero.2 ⟨sl_reg, .inr ⟨sb, rfl⟩⟩
theorem sl_cut1 : cutFull sl 100 1000 1 = ((20, 50, false, [(899, 400, true)]), 0) := by
  unfold cutFull
  rw [if_neg (fun h : errS sl 100 1000 1 ≠ 0 => h sl_err1)]
  rfl
theorem sl_cut2 : cutFull sl 100 1000 2 = ((20, 30, true, [(899, 100, true), (749, 50, true)]), 0) := by
  unfold cutFull
  rw [if_neg (fun h : errS sl 100 1000 2 ≠ 0 => h sl_err2)]
  rfl
theorem find1 : findS [(899, 400, true)] (680, 820) = ([(80, 220)], 0) := by
  have e : fndS [((899, 400, true) : Rn)] 0 (680, 820) = [(80, 220)] := rfl
  have n : nf [((80, 220) : Sp)] = [(80, 220)] := by
    rw [← e]; exact nf_self (find_in (chk_zero.1 (by decide)) _) (by rw [e]; exact ⟨by decide, by decide, trivial⟩)
  unfold findS
  rw [e, n]
  rfl
theorem find2 : findS [(899, 100, true), (749, 50, true)] (680, 820) = ([(80, 150)], 0) := by
  have e : fndS [((899, 100, true) : Rn), (749, 50, true)] 0 (680, 820) = [(80, 100), (100, 150)] := rfl
  have hi := find_in (m := [((899, 100, true) : Rn), (749, 50, true)]) (chk_zero.1 (by decide)) (680, 820)
  rw [e] at hi
  have n : nf [((80, 100) : Sp), (100, 150)] = [(80, 150)] := (nf_uniq hi (show Nr (-1) [((80, 150) : Sp)] from ⟨by decide, by decide, trivial⟩) (fun x => by
    rw [has_iff, has_iff]
    simp only [List.mem_cons, List.not_mem_nil, or_false, exists_eq_or_imp, exists_eq_left]
    omega)).symm
  unfold findS
  rw [e, n]
  rfl
theorem sp1 : spotsS sl 100 1000 ssp 1 = ([((0, 25, 80, 220), 3, 40)], 0) := by
  unfold spotsS
  rw [sl_cut1]
  have e : spGoS (20, 50, false, [(899, 400, true)]) ssp = [((0, 25, 80, 220), 3, 40)] := by
    unfold ssp spGoS spGoS fndl
    show (if _ then _ else ((findS [(899, 400, true)] (680, 820)).1.map _)) ++ [] = _
    rw [find1]; rfl
  show (if (0 : Int) ≠ 0 then _ else if spotsE ssp ≠ 0 then _ else if (spGoS (20, 50, false, [(899, 400, true)]) ssp).length > 128 then _ else (spGoS (20, 50, false, [(899, 400, true)]) ssp, 0)) = _
  rw [e]; rfl
theorem sp2 : spotsS sl 100 1000 ssp 2 = ([((5, 30, 80, 150), 3, 40)], 0) := by
  unfold spotsS
  rw [sl_cut2]
  have e : spGoS (20, 30, true, [(899, 100, true), (749, 50, true)]) ssp = [((5, 30, 80, 150), 3, 40)] := by
    unfold ssp spGoS spGoS fndl
    show (if _ then _ else ((findS [(899, 100, true), (749, 50, true)] (680, 820)).1.map _)) ++ [] = _
    rw [find2]; rfl
  show (if (0 : Int) ≠ 0 then _ else if spotsE ssp ≠ 0 then _ else if (spGoS (20, 30, true, [(899, 100, true), (749, 50, true)]) ssp).length > 128 then _ else (spGoS (20, 30, true, [(899, 100, true), (749, 50, true)]) ssp, 0)) = _
  rw [e]; rfl
theorem len1 : lengthS sl 100 1000 ssp (2, 3, 40) = (70, 0) := by
  have hp : posS sl 100 1000 ssp (2, 3, 40) = [(80, 150)] := by
    unfold posS
    show ((spotsS sl 100 1000 ssp 2).1.filter _).map _ = _
    rw [sp2]; rfl
  have hi : In 0 17179869184 [((80, 150) : Sp)] := In.of fun x hx => by
    rw [List.mem_singleton] at hx; subst hx; decide
  unfold lengthS
  show (if (spotsS sl 100 1000 ssp 2).2 ≠ 0 then _ else totalS (posS sl 100 1000 ssp (2, 3, 40))) = _
  rw [sp2, hp]
  unfold totalS
  rw [nf_self hi ⟨by decide, by decide, trivial⟩]
  rfl
theorem len2 : lengthS sl 100 1000 ssp (2, 3, 41) = (0, 0) := by
  have hp : posS sl 100 1000 ssp (2, 3, 41) = [] := by
    unfold posS
    show ((spotsS sl 100 1000 ssp 2).1.filter _).map _ = _
    rw [sp2]; rfl
  have hi : In 0 17179869184 ([] : List Sp) := In.of fun x hx => by simp at hx
  unfold lengthS
  show (if (spotsS sl 100 1000 ssp 2).2 ≠ 0 then _ else totalS (posS sl 100 1000 ssp (2, 3, 41))) = _
  rw [sp2, hp]
  unfold totalS
  rw [nf_self hi trivial]
  rfl
theorem wor : worstS sl 100 1000 ssp 2 = (40, 0) := by
  unfold worstS
  rw [sp2]; rfl
theorem bck : backS sl 100 1000 2 (0, 30, 90, 110) = ([(20, 50, 740, 750), (20, 50, 800, 810)], 0) := by
  have e : (partS [((899, 100, true) : Rn), (749, 50, true)] (90, 110)).1 = [(809, 10, true), (749, 10, true)] := rfl
  have hc : chk [((809, 10, true) : Rn), (749, 10, true)] = 0 := by decide
  have hi := spn_in (chk_zero.1 hc).goods
  have n : nf ([((809, 10, true) : Rn), (749, 10, true)].map spn) = [(740, 750), (800, 810)] := (nf_uniq hi (show Nr (-1) [((740, 750) : Sp), (800, 810)] from ⟨by decide, by decide, by decide, by decide, trivial⟩) (fun x => by
    show has [((740, 750) : Sp), (800, 810)] x ↔ has [((800, 810) : Sp), (740, 750)] x
    rw [has_iff, has_iff]
    simp only [List.mem_cons, List.not_mem_nil, or_false, exists_eq_or_imp, exists_eq_left]
    omega)).symm
  have im : imageS [((809, 10, true) : Rn), (749, 10, true)] = ([(740, 750), (800, 810)], 0) := by
    unfold imageS
    rw [if_neg (fun h => h hc), n]
  unfold backS
  rw [sl_cut2]
  show (if (0 : Int) ≠ 0 then _ else if rectE (0, 30, 90, 110) ≠ 0 then _ else if (30 : Int) > 30 then _ else if (110 : Int) > 150 then _ else if (imageS (partS [((899, 100, true) : Rn), (749, 50, true)] (90, 110)).1).2 ≠ 0 then _ else ((imageS (partS [((899, 100, true) : Rn), (749, 50, true)] (90, 110)).1).1.map _, (0 : Int))) = _
  rw [e, im]
  rfl
theorem awake43_s (k : Nat) (hk : 301000 ≤ k) : f_u50 k = some true := by
  have hsm : v_u54 k = (sl, 100, 1000, ssp) := rfl
  have hfs : f_u54 k = some (sl, 100, 1000, ssp) := rfl
  have hmd : v_u52 k (sl, 100, 1000, ssp) = (100, 1000) := rfl
  have hfm : f_u52 k (sl, 100, 1000, ssp) = some (100, 1000) := rfl
  have a1 : f_u22 k sl (100, 1000) ssp 1 = some ([((0, 25, 80, 220), 3, 40)], 0) := (inherit_Spots_s k (by omega) sl (100, 1000) ssp 1).trans (congrArg some sp1)
  have a2 : f_u22 k sl (100, 1000) ssp 2 = some ([((5, 30, 80, 150), 3, 40)], 0) := (inherit_Spots_s k (by omega) sl (100, 1000) ssp 2).trans (congrArg some sp2)
  have b1 : v_u22 k sl (100, 1000) ssp 1 = ([((0, 25, 80, 220), 3, 40)], 0) := (inherit_Spots_v k (by omega) sl (100, 1000) ssp 1).trans sp1
  have b2 : v_u22 k sl (100, 1000) ssp 2 = ([((5, 30, 80, 150), 3, 40)], 0) := (inherit_Spots_v k (by omega) sl (100, 1000) ssp 2).trans sp2
  have a3 : f_u20 k sl (100, 1000) ssp (2, 3, 40) = some (70, 0) := (inherit_Length_s k (by omega) sl (100, 1000) ssp (2, 3, 40)).trans (congrArg some len1)
  have a4 : f_u20 k sl (100, 1000) ssp (2, 3, 41) = some (0, 0) := (inherit_Length_s k (by omega) sl (100, 1000) ssp (2, 3, 41)).trans (congrArg some len2)
  have b3 : v_u20 k sl (100, 1000) ssp (2, 3, 40) = (70, 0) := (inherit_Length_v k (by omega) sl (100, 1000) ssp (2, 3, 40)).trans len1
  have b4 : v_u20 k sl (100, 1000) ssp (2, 3, 41) = (0, 0) := (inherit_Length_v k (by omega) sl (100, 1000) ssp (2, 3, 41)).trans len2
  have a5 : f_u19 k sl (100, 1000) 2 (0, 30, 90, 110) = some ([(20, 50, 740, 750), (20, 50, 800, 810)], 0) := (inherit_Back_s k (by omega) sl (100, 1000) 2 (0, 30, 90, 110)).trans (congrArg some bck)
  have b5 : v_u19 k sl (100, 1000) 2 (0, 30, 90, 110) = ([(20, 50, 740, 750), (20, 50, 800, 810)], 0) := (inherit_Back_v k (by omega) sl (100, 1000) 2 (0, 30, 90, 110)).trans bck
  have a6 : f_u23 k sl (100, 1000) ssp 2 = some (40, 0) := (inherit_Worst_s k (by omega) sl (100, 1000) ssp 2).trans (congrArg some wor)
  have b6 : v_u23 k sl (100, 1000) ssp 2 = (40, 0) := (inherit_Worst_v k (by omega) sl (100, 1000) ssp 2).trans wor
  have s1 : f_u57 k [((0, 25, 80, 220), 3, 40)] [((0, 25, 80, 220), 3, 40)] = some true := same36 k _ (by decide) (by omega)
  have s2 : f_u57 k [((5, 30, 80, 150), 3, 40)] [((5, 30, 80, 150), 3, 40)] = some true := same36 k _ (by decide) (by omega)
  have s3 : f_u56 k [(20, 50, 740, 750), (20, 50, 800, 810)] [(20, 50, 740, 750), (20, 50, 800, 810)] = some true := same15 k _ (by decide) (by omega)
  have t1 : v_u57 k [((0, 25, 80, 220), 3, 40)] [((0, 25, 80, 220), 3, 40)] = true := by unfold v_u57; rw [s1]; rfl
  have t2 : v_u57 k [((5, 30, 80, 150), 3, 40)] [((5, 30, 80, 150), 3, 40)] = true := by unfold v_u57; rw [s2]; rfl
  have t3 : v_u56 k [(20, 50, 740, 750), (20, 50, 800, 810)] [(20, 50, 740, 750), (20, 50, 800, 810)] = true := by unfold v_u56; rw [s3]; rfl
  unfold f_u50
  rw [hsm, hfs, hmd, hfm]
  dsimp only
  rw [a1, a2, a3, a4, a5, a6, b1, b2, b3, b4, b5, b6]
  dsimp only
  rw [s1, s2, s3, t1, t2, t3]
  rfl
theorem awake43_v (k : Nat) (hk : 301000 ≤ k) : v_u50 k = true := by
  unfold v_u50; rw [awake43_s k hk]; rfl
abbrev Pap := List Ro × Int × Int × List Spt
theorem small_5 (k : Nat) (x : Pap) (hl : x.1.length ≤ 40) : ∀ (d i j : Nat) (y : Int), i + d = x.1.length → d < j → (f_u55_5 k j y (i : Int) x).isSome = true := by
  intro d
  induction d with
  | zero =>
    intro i j y hi hj
    obtain ⟨j, rfl⟩ : ∃ q, j = q + 1 := ⟨j - 1, by omega⟩
    rw [f_u55_5, decide_eq_false (by omega : ¬ (i : Int) < (x.1.length : Int)), Bool.false_and, cond_false]; rfl
  | succ d ih =>
    intro i j y hi hj
    obtain ⟨j, rfl⟩ : ∃ q, j = q + 1 := ⟨j - 1, by omega⟩
    have hx : (i : Int) < (x.1.length : Int) := by omega
    rw [f_u55_5, decide_eq_true hx, Bool.true_and, wrapS i (by omega)]
    cases decide (y ≤ 300)
    · rfl
    · rw [cond_true, if_pos ⟨by omega, hx⟩]
      exact ih (i + 1) j _ (by omega) (by omega)
theorem small_s (k : Nat) (hk : 100 ≤ k) (x : Pap) : (f_u55 k x).isSome = true := by
  unfold f_u55
  by_cases h : x.1.length > 40
  · rw [decide_eq_true (by omega : (x.1.length : Int) > 40), Bool.true_or]; rfl
  · cases decide ((List.length x.2.2.2 : Int) > 130)
    · rw [decide_eq_false (by omega : ¬ (x.1.length : Int) > 40), Bool.or_false, cond_false]
      exact small_5 k x (by omega) x.1.length 0 k 0 (by omega) (by omega)
    · rw [Bool.or_true]; rfl
end Go.AM
namespace Go.AM
open Go Go.Proofs
noncomputable section
end
theorem find_len {m : List Rn} (hc : Chk m) {x : Spt} (hx : SpotOk x) {s : Sp} (hs : s ∈ (findS m x.1.2.2).1) : s.2 ≤ lenS m := by
  have h := find_mem hc hx hs
  obtain ⟨⟨p, q, c, d, e, f⟩, _, _, _, _⟩ := hx
  unfold findS at hs
  rw [if_neg (fun h => h (chk_zero.2 hc)), if_neg (by omega)] at hs
  have h1 := (nf_has (find_in hc x.1.2.2) (s.2 - 1)).1 ((has_iff _ _).2 ⟨s, hs, by omega, by omega⟩)
  have := (fndS_has m 0 x.1.2.2 (s.2 - 1) hc.goods).1 h1
  omega
theorem spots_zero {l : List Ro} {W L id : Int} {sp : List Spt} (h : (spotsS l W L sp id).2 = 0) : (cutFull l W L id).2 = 0 ∧ spotsE sp = 0 ∧ (spotsS l W L sp id).1 = spGoS (cutFull l W L id).1 sp := by
  unfold spotsS at h ⊢
  by_cases h1 : (cutFull l W L id).2 = 0
  · rw [if_neg (fun h : (cutFull l W L id).2 ≠ 0 => h h1)] at h ⊢
    by_cases h2 : spotsE sp = 0
    · rw [if_neg (fun h : spotsE sp ≠ 0 => h h2)] at h ⊢
      by_cases h3 : (spGoS (cutFull l W L id).1 sp).length > 128
      · rw [if_pos h3] at h; exact absurd h (show (8 : Int) ≠ 0 by decide)
      · rw [if_neg h3]; exact ⟨h1, h2, rfl⟩
    · rw [if_pos h2] at h; exact absurd h h2
  · rw [if_pos h1] at h; exact absurd h h1
theorem spots_err {l : List Ro} {W L id : Int} {sp : List Spt} (h : (spotsS l W L sp id).2 ≠ 0) : (spotsS l W L sp id).1 = [] := by
  unfold spotsS at h ⊢
  by_cases h1 : (cutFull l W L id).2 = 0
  · rw [if_neg (fun h : (cutFull l W L id).2 ≠ 0 => h h1)] at h ⊢
    by_cases h2 : spotsE sp = 0
    · rw [if_neg (fun h : spotsE sp ≠ 0 => h h2)] at h ⊢
      by_cases h3 : (spGoS (cutFull l W L id).1 sp).length > 128
      · rw [if_pos h3]
      · rw [if_neg h3] at h; exact absurd rfl h
    · rw [if_pos h2]
  · rw [if_pos h1]
theorem spots_on {l : List Ro} {W L id : Int} {sp : List Spt} {y : Spt} (hy : y ∈ (spotsS l W L sp id).1) : (0 ≤ y.1.1 ∧ y.1.1 < y.1.2.1 ∧ y.1.2.1 ≤ (sizeS l W L id).1 ∧ 0 ≤ y.1.2.2.1 ∧ y.1.2.2.1 < y.1.2.2.2 ∧ y.1.2.2.2 ≤ (sizeS l W L id).2) ∧ ∃ x ∈ sp, y.2 = x.2 := by
  by_cases h : (spotsS l W L sp id).2 = 0
  · obtain ⟨h1, h2, h3⟩ := spots_zero h
    rw [h3] at hy
    obtain ⟨reg, ci⟩ := cut_in h1
    obtain ⟨x, hx, hy⟩ := spGo_mem hy
    have ok := (spotsE_zero h2).2 x hx
    obtain ⟨m1, s, h2, e⟩ := fndl_mem hy
    obtain ⟨f1, f2, f3⟩ := find_mem ci.chk ok h2
    have f4 := find_len ci.chk ok h2
    obtain ⟨a1, a2, a3⟩ := ac_in (c := (cutFull l W L id).1) (a := max x.1.1 (cutFull l W L id).1.1) (b := min x.1.2.1 ((cutFull l W L id).1.1 + (cutFull l W L id).1.2.1)) (by omega) m1 (by omega)
    rw [ci.len] at f4
    have a3 := Int.le_trans a3 (Int.le_of_eq ci.width)
    subst e
    exact ⟨⟨a1, a2, a3, f1, f2, f4⟩, x, hx, rfl⟩
  · rw [spots_err h] at hy; exact absurd hy List.not_mem_nil
theorem sizeE_cut {l : List Ro} {W L id : Int} (h : (cutFull l W L id).2 = 0) : sizeE l W L id = ((sizeS l W L id).1, (sizeS l W L id).2, 0) := by
  have hz := errS_zero.2 (cut_err h)
  unfold sizeE
  rw [if_neg (fun h : errS l W L id ≠ 0 => h hz)]
end Go.AM
namespace Go.AM
open Go Go.Proofs
noncomputable section
end
end Go.AM
namespace Go.AM
open Go Go.Proofs
noncomputable section
end
end Go.AM
namespace Go.AM
open Go Go.Proofs
noncomputable section
abbrev R_u48 : Type := Bool
def res_u48 (r : R_u48) : AV := .r (.v (.bool r))
def bo_u48 (t_ : T5.T) (o_ : T7.T) (r : R_u48) : List (Nat × Blk) := []
def args_u48 (t_ : T5.T) (o_ : T7.T) : List AV := [.agg (rvs (enc T5 t_)), .agg (rvs (enc T7 o_))]
def bin_u48 (t_ : T5.T) (o_ : T7.T) : List Blk := []
abbrev C_u48 (t_ : T5.T) (o_ : T7.T) (r : R_u48) : Prop := CC Try.prog 4 (args_u48 t_ o_) (bin_u48 t_ o_) (res_u48 r) (bo_u48 t_ o_ r)
def st_u48_7 (y0 : List (T4).T) (y1 : Int) (y2 : Int) (y3 : Int) (y4 : Int) (y5 : Int) (y6 : Int) (y7 : Int) (y8 : Int) (y9 : T5.T) (y10 : T7.T) : St := ⟨mkS 226 [(2, .ptr 1000000 0 0), (3, .ptr 1000001 0 0), (5, .r (.ro T4 y0)), (6, .r (.v (.int .i64 y1))), (7, .r (.v (.int .i64 y2))), (8, .r (.v (.int .i64 y3))), (9, .r (.v (.int .i64 y4))), (10, .r (.v (.int .i64 y5))), (11, .r (.v (.int .i64 y6))), (12, .r (.v (.int .i64 y7))), (13, .r (.v (.int .i64 y8)))], [(1000000, 0, .var 25 (rvs (enc T5 y9))), (1000001, 0, .var 49 (rvs (enc T7 y10)))]⟩
def st_u48_13 (y0 : List (T4).T) (y1 : Int) (y2 : Int) (y3 : Int) (y4 : Int) (y5 : Int) (y6 : Bool) (y7 : Int) (y8 : Int) (y9 : T5.T) (y10 : T7.T) : St := ⟨mkS 226 [(2, .ptr 1000000 0 0), (3, .ptr 1000001 0 0), (5, .r (.ro T4 y0)), (7, .r (.v (.int .i64 y1))), (8, .r (.v (.int .i64 y2))), (10, .r (.v (.int .i64 y3))), (12, .r (.v (.int .i64 y4))), (14, .r (.v (.int .i64 y5))), (15, .r (.v (.bool y6))), (16, .r (.v (.int .i64 y7))), (17, .r (.v (.int .i64 y8)))], [(1000000, 0, .var 25 (rvs (enc T5 y9))), (1000001, 0, .var 49 (rvs (enc T7 y10)))]⟩
def st_u48_20 (y0 : List (T4).T) (y1 : Int) (y2 : Int) (y3 : Int) (y4 : Int) (y5 : Int) (y6 : Bool) (y7 : Int) (y8 : T5.T) (y9 : T7.T) : St := ⟨mkS 226 [(2, .ptr 1000000 0 0), (3, .ptr 1000001 0 0), (5, .r (.ro T4 y0)), (7, .r (.v (.int .i64 y1))), (8, .r (.v (.int .i64 y2))), (10, .r (.v (.int .i64 y3))), (12, .r (.v (.int .i64 y4))), (14, .r (.v (.int .i64 y5))), (15, .r (.v (.bool y6))), (16, .r (.v (.int .i64 y7)))], [(1000000, 0, .var 25 (rvs (enc T5 y8))), (1000001, 0, .var 49 (rvs (enc T7 y9)))]⟩
def st_u48_21 (y0 : List (T4).T) (y1 : Int) (y2 : Int) (y3 : Int) (y4 : Int) (y5 : Int) (y6 : Bool) (y7 : Int) (y8 : Int) (y9 : Int) (y10 : T5.T) (y11 : T7.T) : St := ⟨mkS 226 [(2, .ptr 1000000 0 0), (3, .ptr 1000001 0 0), (5, .r (.ro T4 y0)), (7, .r (.v (.int .i64 y1))), (8, .r (.v (.int .i64 y2))), (10, .r (.v (.int .i64 y3))), (12, .r (.v (.int .i64 y4))), (14, .r (.v (.int .i64 y5))), (15, .r (.v (.bool y6))), (16, .r (.v (.int .i64 y7))), (18, .r (.v (.int .i64 y8))), (19, .r (.v (.int .i64 y9)))], [(1000000, 0, .var 25 (rvs (enc T5 y10))), (1000001, 0, .var 49 (rvs (enc T7 y11)))]⟩
mutual
def f_u48_7 (k : Nat) : Nat → List (T4).T → Int → Int → Int → Int → Int → Int → Int → Int → T5.T → T7.T → Option R_u48
  | 0, _, _, _, _, _, _, _, _, _, _, _ => none
  | j + 1, y0, y1, y2, y3, y4, y5, y6, y7, y8, y9, y10 =>
  bif (y1 != (0 : Int)) then
  bif (y6 == y1 && y8 == y1 && (↑y0.length : Int) == (0 : Int) && y5 == (0 : Int) && y7 == (0 : Int)) then
  if ((y6 == y1 && y8 == y1 && (↑y0.length : Int) == (0 : Int) && y5 == (0 : Int) && y7 == (0 : Int)) = true) ∧ ((f_u50 k ).isSome = true) then
  some (true && v_u50 k)
  else none
  else
  if ((y6 == y1 && y8 == y1 && (↑y0.length : Int) == (0 : Int) && y5 == (0 : Int) && y7 == (0 : Int)) = false) then
  some false
  else none
  else
  bif (y4 != (0 : Int) || y6 != (0 : Int) || y8 != (0 : Int)) then
  some false
  else
  f_u48_13 k j y0 y2 y3 y5 y7 0 false 0 0 y9 y10
def f_u48_13 (k : Nat) : Nat → List (T4).T → Int → Int → Int → Int → Int → Bool → Int → Int → T5.T → T7.T → Option R_u48
  | 0, _, _, _, _, _, _, _, _, _, _, _ => none
  | j + 1, y0, y1, y2, y3, y4, y5, y6, y7, y8, y9, y10 =>
  bif (decide (y8 < (↑y0.length : Int))) then
  if (0 ≤ y8) ∧ (y8 < (↑y0.length : Int)) ∧ ((f_u61 k (y0.getD y8.toNat T4.dflt).1 (0, y1, 0, y2)).isSome = true) then
  bif (!v_u61 k (y0.getD y8.toNat T4.dflt).1 ((0 : Int), y1, (0 : Int), y2)) then
  some false
  else
  if (0 ≤ y8) ∧ (y8 < (↑y0.length : Int)) then
  if ((y10.2.1 == (0 : Int)) = false → 0 ≤ y8) ∧ ((y10.2.1 == (0 : Int)) = false → y8 < (↑y0.length : Int)) ∧ ((y10.2.1 == (0 : Int) || (y0.getD y8.toNat T4.dflt).2.1 == y10.2.1) = true → 0 ≤ y8) ∧ ((y10.2.1 == (0 : Int) || (y0.getD y8.toNat T4.dflt).2.1 == y10.2.1) = true → y8 < (↑y0.length : Int)) then
  bif ((y10.2.1 == (0 : Int) || (y0.getD y8.toNat T4.dflt).2.1 == y10.2.1) && decide ((y0.getD y8.toNat T4.dflt).2.2 ≥ y10.2.2)) then
  if (0 ≤ y8) ∧ (y8 < (↑y0.length : Int)) ∧ (0 ≤ y8) ∧ (y8 < (↑y0.length : Int)) then
  f_u48_13 k j y0 y1 y2 y3 y4 ((IntKind.i64.wrap (IntKind.i64.wrap (y5 + (y0.getD y8.toNat T4.dflt).1.2.2.2) - (y0.getD y8.toNat T4.dflt).1.2.2.1))) true ((if (y0.getD y8.toNat T4.dflt).2.2 > y7 then (y0.getD y8.toNat T4.dflt).2.2 else y7)) ((IntKind.i64.wrap (y8 + 1))) y9 y10
  else none
  else
  f_u48_13 k j y0 y1 y2 y3 y4 y5 y6 ((if (y0.getD y8.toNat T4.dflt).2.2 > y7 then (y0.getD y8.toNat T4.dflt).2.2 else y7)) ((IntKind.i64.wrap (y8 + 1))) y9 y10
  else none
  else none
  else none
  else
  f_u48_20 k j y0 y1 y2 y3 y4 y5 y6 y7 y9 y10
def f_u48_20 (k : Nat) : Nat → List (T4).T → Int → Int → Int → Int → Int → Bool → Int → T5.T → T7.T → Option R_u48
  | 0, _, _, _, _, _, _, _, _, _, _ => none
  | j + 1, y0, y1, y2, y3, y4, y5, y6, y7, y8, y9 =>
  if ((f_u3 k y8.2.2.2).isSome = true) then
  f_u48_21 k j y0 y1 y2 y3 y4 y5 y6 y7 ((v_u3 k y8.2.2.2).1) ((v_u3 k y8.2.2.2).2) y8 y9
  else none
def f_u48_21 (k : Nat) : Nat → List (T4).T → Int → Int → Int → Int → Int → Bool → Int → Int → Int → T5.T → T7.T → Option R_u48
  | 0, _, _, _, _, _, _, _, _, _, _, _, _ => none
  | j + 1, y0, y1, y2, y3, y4, y5, y6, y7, y8, y9, y10, y11 =>
  bif (y9 != (0 : Int) || y4 != y7 || decide (y4 > y8) || decide (y3 > y2) || decide (y3 > y5) || (!decide (y3 > (0 : Int)) == y6)) then
  some false
  else
  bif (y11.1 == (0 : Int)) then
  if ((f_u2 k y10.2.2.2 (0, y1, 0, y2)).isSome = true) then
  bif ((v_u2 k y10.2.2.2 ((0 : Int), y1, (0 : Int), y2)).2 == (0 : Int)) then
  bif (true && v_u57 k y0 (v_u2 k y10.2.2.2 ((0 : Int), y1, (0 : Int), y2)).1) then
  if (((v_u2 k y10.2.2.2 ((0 : Int), y1, (0 : Int), y2)).2 == (0 : Int)) = true) ∧ ((f_u57 k y0 (v_u2 k y10.2.2.2 (0, y1, 0, y2)).1).isSome = true) ∧ ((true && v_u57 k y0 (v_u2 k y10.2.2.2 ((0 : Int), y1, (0 : Int), y2)).1) = true) ∧ ((f_u50 k ).isSome = true) then
  some (true && v_u50 k)
  else none
  else
  if (((v_u2 k y10.2.2.2 ((0 : Int), y1, (0 : Int), y2)).2 == (0 : Int)) = true) ∧ ((f_u57 k y0 (v_u2 k y10.2.2.2 (0, y1, 0, y2)).1).isSome = true) ∧ ((true && v_u57 k y0 (v_u2 k y10.2.2.2 ((0 : Int), y1, (0 : Int), y2)).1) = false) then
  some false
  else none
  else
  if (((v_u2 k y10.2.2.2 ((0 : Int), y1, (0 : Int), y2)).2 == (0 : Int)) = false) ∧ (false = false) then
  some false
  else none
  else none
  else
  if ((f_u50 k ).isSome = true) then
  some (v_u50 k)
  else none
end
def f_u48 (k : Nat) (t_ : T5.T) (o_ : T7.T) : Option R_u48 :=
  if ((f_u55 k t_).isSome = true) then
  bif (!v_u55 k t_) then
  if ((f_u50 k ).isSome = true) then
  some (v_u50 k)
  else none
  else
  if ((f_u52 k t_).isSome = true) ∧ ((f_u22 k t_.1 (v_u52 k t_) t_.2.2.2 o_.1).isSome = true) then
  if ((f_u52 k t_).isSome = true) ∧ ((f_u5 k t_.1 (v_u52 k t_) o_.1).isSome = true) then
  if ((f_u52 k t_).isSome = true) ∧ ((f_u20 k t_.1 (v_u52 k t_) t_.2.2.2 o_).isSome = true) then
  if ((f_u52 k t_).isSome = true) ∧ ((f_u23 k t_.1 (v_u52 k t_) t_.2.2.2 o_.1).isSome = true) then
  f_u48_7 k k ((v_u22 k t_.1 (v_u52 k t_) t_.2.2.2 o_.1).1) ((v_u22 k t_.1 (v_u52 k t_) t_.2.2.2 o_.1).2) ((v_u5 k t_.1 (v_u52 k t_) o_.1).1) ((v_u5 k t_.1 (v_u52 k t_) o_.1).2.1) ((v_u5 k t_.1 (v_u52 k t_) o_.1).2.2) ((v_u20 k t_.1 (v_u52 k t_) t_.2.2.2 o_).1) ((v_u20 k t_.1 (v_u52 k t_) t_.2.2.2 o_).2) ((v_u23 k t_.1 (v_u52 k t_) t_.2.2.2 o_.1).1) ((v_u23 k t_.1 (v_u52 k t_) t_.2.2.2 o_.1).2) t_ o_
  else none
  else none
  else none
  else none
  else none
def K_u48 (k : Nat) : Calld := mkK [ke_u55 k, ke_u22 k, ke_u52 k, ke_u20 k, ke_u23 k, ke_u57 k, ke_u50 k, ke_u5 k, ke_u61 k, ke_u3 k, ke_u2 k]
def cs_u48 : List (Nat × List Cmd) := [(7, [.autoB [2, 3, 5, 6, 7, 8, 9, 10, 11, 12, 13] false []]), (13, [.autoB [2, 3, 5, 7, 8, 10, 12, 14, 15, 16, 17] false []]), (20, [.autoB [2, 3, 5, 7, 8, 10, 12, 14, 15, 16] false []]), (21, [.autoB [2, 3, 5, 7, 8, 10, 12, 14, 15, 16, 18, 19] false []])]
abbrev E_u48 (t_ : T5.T) (o_ : T7.T) (todo : List Item) (st : St) (o : Option R_u48) : Prop := ∀ r, o = some r → Ev Try.prog Try.f4 0 todo st (res_u48 r) (bo_u48 t_ o_ r)
theorem ev_u48 (k : Nat) (t_ : T5.T) (o_ : T7.T) : ∀ j, (∀ (y0 : List (T4).T) (y1 : Int) (y2 : Int) (y3 : Int) (y4 : Int) (y5 : Int) (y6 : Int) (y7 : Int) (y8 : Int) (y9 : T5.T) (y10 : T7.T), E_u48 t_ o_ (placeAt Try.f4 7) (st_u48_7 y0 y1 y2 y3 y4 y5 y6 y7 y8 y9 y10) (f_u48_7 k j y0 y1 y2 y3 y4 y5 y6 y7 y8 y9 y10)) ∧ (∀ (y0 : List (T4).T) (y1 : Int) (y2 : Int) (y3 : Int) (y4 : Int) (y5 : Int) (y6 : Bool) (y7 : Int) (y8 : Int) (y9 : T5.T) (y10 : T7.T), E_u48 t_ o_ (placeAt Try.f4 13) (st_u48_13 y0 y1 y2 y3 y4 y5 y6 y7 y8 y9 y10) (f_u48_13 k j y0 y1 y2 y3 y4 y5 y6 y7 y8 y9 y10)) ∧ (∀ (y0 : List (T4).T) (y1 : Int) (y2 : Int) (y3 : Int) (y4 : Int) (y5 : Int) (y6 : Bool) (y7 : Int) (y8 : T5.T) (y9 : T7.T), E_u48 t_ o_ (placeAt Try.f4 20) (st_u48_20 y0 y1 y2 y3 y4 y5 y6 y7 y8 y9) (f_u48_20 k j y0 y1 y2 y3 y4 y5 y6 y7 y8 y9)) ∧ (∀ (y0 : List (T4).T) (y1 : Int) (y2 : Int) (y3 : Int) (y4 : Int) (y5 : Int) (y6 : Bool) (y7 : Int) (y8 : Int) (y9 : Int) (y10 : T5.T) (y11 : T7.T), E_u48 t_ o_ (placeAt Try.f4 21) (st_u48_21 y0 y1 y2 y3 y4 y5 y6 y7 y8 y9 y10 y11) (f_u48_21 k j y0 y1 y2 y3 y4 y5 y6 y7 y8 y9 y10 y11))
  | 0 => ⟨fun _ _ _ _ _ _ _ _ _ _ _ _ h => (nomatch h), fun _ _ _ _ _ _ _ _ _ _ _ _ h => (nomatch h), fun _ _ _ _ _ _ _ _ _ _ _ h => (nomatch h), fun _ _ _ _ _ _ _ _ _ _ _ _ _ h => (nomatch h)⟩
  | j + 1 => by
    have ih := @ev_u48 k t_ o_ j
    refine ⟨?_, ?_, ?_, ?_⟩
    · intro y0 y1 y2 y3 y4 y5 y6 y7 y8 y9 y10 r h
      rw [f_u48_7] at h
      exact go (K_u48 k) [7, 20, 21] cs_u48 [.autoB [4] true []] (gT h (fun c h => gT h (fun c h => gN h (fun q => conjC q.1 (conjC (cc_u50 q.2) conj0)) fun h => gL h) fun c h => gN1 h id fun h => gL h) fun c h => gT h (fun c h => gL h) fun c h => gC h 13 (ih.2.1 _ _ _ _ _ _ _ _ _ _ _ _)) (by kernel_rfl)
    · intro y0 y1 y2 y3 y4 y5 y6 y7 y8 y9 y10 r h
      rw [f_u48_13] at h
      exact go (K_u48 k) [7, 20, 21] cs_u48 [.autoB [4] true []] (gT h (fun c h => gN h (fun q => conjC q.1 (conjC q.2.1 (conjC (cc_u61 q.2.2) conj0))) fun h => gT h (fun c h => gL h) fun c h => gN2 h fun h => gN h (fun q => conjC q.1 (conjC q.2.1 (conjC q.2.2.1 (conjC q.2.2.2 conj0)))) fun h => gT h (fun c h => gN h (fun q => conjC q.1 (conjC q.2.1 (conjC q.2.2.1 (conjC q.2.2.2 conj0)))) fun h => gC h 13 (ih.2.1 _ _ _ _ _ _ _ _ _ _ _ _)) fun c h => gC h 13 (ih.2.1 _ _ _ _ _ _ _ _ _ _ _ _)) fun c h => gC h 20 (ih.2.2.1 _ _ _ _ _ _ _ _ _ _ _)) (by kernel_rfl)
    · intro y0 y1 y2 y3 y4 y5 y6 y7 y8 y9 r h
      rw [f_u48_20] at h
      exact go (K_u48 k) [7, 20, 21] cs_u48 [.autoB [4] true []] (gN1 h (fun q => cc_u3 q) fun h => gC h 21 (ih.2.2.2 _ _ _ _ _ _ _ _ _ _ _ _ _)) (by kernel_rfl)
    · intro y0 y1 y2 y3 y4 y5 y6 y7 y8 y9 y10 y11 r h
      rw [f_u48_21] at h
      exact go (K_u48 k) [7, 20, 21] cs_u48 [.autoB [4] true []] (gT h (fun c h => gL h) fun c h => gT h (fun c h => gN1 h (fun q => cc_u2 q) fun h => gT h (fun c h => gT h (fun c h => gN h (fun q => conjC q.1 (conjC (cc_u57 q.2.1) (conjC q.2.2.1 (conjC (cc_u50 q.2.2.2) conj0)))) fun h => gL h) fun c h => gN h (fun q => conjC q.1 (conjC (cc_u57 q.2.1) (conjC q.2.2 conj0))) fun h => gL h) fun c h => gU2 h (.need [((v_u2 k y10.2.2.2 ((0 : Int), y1, (0 : Int), y2)).2 == (0 : Int)) = false, false = true, CC Try.prog 8 (args_u50 ) (bin_u50 ) (res_u50 (v_u50 k )) (bo_u50  (v_u50 k ))] (.leaf (.r (.v (.bool ((true && v_u50 k))))) [])) fun h => gN2 h fun h => gL h) fun c h => gN1 h (fun q => cc_u50 q) fun h => gL h) (by kernel_rfl)
theorem of_u48 (k : Nat) (t_ : T5.T) (o_ : T7.T) (r : R_u48) (h : f_u48 k t_ o_ = some r) : C_u48 t_ o_ r := by
  refine CC.of (fn := Try.f4) (by kernel_rfl) (by kernel_rfl) (by kernel_rfl) (by kernel_rfl) ?_
  unfold f_u48 at h
  exact go (K_u48 k) [7, 20, 21] cs_u48 [.autoB [4] true []] (gN1 h (fun q => cc_u55 q) fun h => gT h (fun c h => gN1 h (fun q => cc_u50 q) fun h => gL h) fun c h => gN h (fun q => conjC (cc_u52 q.1) (conjC (cc_u22 q.2) conj0)) fun h => gN h (fun q => conjC (cc_u52 q.1) (conjC (cc_u5 q.2) conj0)) fun h => gN h (fun q => conjC (cc_u52 q.1) (conjC (cc_u20 q.2) conj0)) fun h => gN h (fun q => conjC (cc_u52 q.1) (conjC (cc_u23 q.2) conj0)) fun h => gC h 7 ((ev_u48 k t_ o_ k).1 _ _ _ _ _ _ _ _ _ _ _ _)) (by kernel_rfl)
end
theorem topS_le {M : Int} : ∀ (l : List Spt) (n : Int), (∀ x ∈ l, x.2.2 ≤ M) → n ≤ M → topS l n ≤ M
  | [], n, _, h => h
  | x :: t, n, h, hn => by
    have h1 := h x (by simp)
    unfold topS
    exact topS_le t _ (fun y hy => h y (by simp [hy])) (by split <;> omega)
theorem topS_ge : ∀ (l : List Spt) (n : Int), n ≤ topS l n ∧ ∀ x ∈ l, x.2.2 ≤ topS l n
  | [], n => ⟨Int.le_refl _, fun x hx => absurd hx List.not_mem_nil⟩
  | x :: t, n => by
    obtain ⟨a, b⟩ := topS_ge t (if x.2.2 > n then x.2.2 else n)
    unfold topS
    refine ⟨Int.le_trans (by split <;> omega) a, fun y hy => ?_⟩
    rcases List.mem_cons.1 hy with e | hy
    · subst e; exact Int.le_trans (by split <;> omega) a
    · exact b y hy
theorem Worst_d6 (k : Nat) (l : List Spt) (hl : l.length ≤ 200) : ∀ (d i j : Nat) (n : Int), i + d = l.length → d < j → f_u3_6 k j n l (l.length : Int) (i : Int) = some (topS (l.drop i) n, 0) := by
  intro d
  induction d with
  | zero =>
    intro i j n hi hj
    obtain ⟨j, rfl⟩ : ∃ q, j = q + 1 := ⟨j - 1, by omega⟩
    rw [f_u3_6, decide_eq_false (by omega : ¬ (i : Int) < (l.length : Int)), cond_false, List.drop_of_length_le (by omega)]; rfl
  | succ d ih =>
    intro i j n hi hj
    obtain ⟨j, rfl⟩ : ∃ q, j = q + 1 := ⟨j - 1, by omega⟩
    rw [f_u3_6, decide_eq_true (by omega : (i : Int) < (l.length : Int)), cond_true, if_pos ⟨by omega, by omega⟩, Int.toNat_natCast, wrapS i (by omega), drop_cons' l i T4.dflt (by omega), topS, ih (i + 1) j _ (by omega) (by omega)]
theorem defect_Worst_s (k : Nat) (hk : 300 ≤ k) (l : List Spt) (h : spotsE l = 0) : f_u3 k l = some (topS l 0, 0) := by
  have hl := (spotsE_zero h).1
  unfold f_u3
  rw [defect_Check_s k hk, defect_Check_v k hk, h, Option.isSome_some, if_pos rfl]
  exact Worst_d6 k l (by omega) l.length 0 k 0 (by omega) (by omega)
theorem defect_Worst_v (k : Nat) (hk : 300 ≤ k) (l : List Spt) (h : spotsE l = 0) : v_u3 k l = (topS l 0, 0) := by
  unfold v_u3; rw [defect_Worst_s k hk l h]; rfl

/-! ### clipped defects -/
def clip1 (r : Rc4) (x : Spt) : List Spt := if someB (meetR x.1 r) = true then [(someS (meetR x.1 r), x.2)] else []
def clipL (r : Rc4) : List Spt → List Spt
  | [] => []
  | x :: t => clip1 r x ++ clipL r t
theorem Clip_9 (k : Nat) (r : Rc4) (l : List Spt) (hl : l.length ≤ 200) : ∀ (d i j : Nat) (out : List Spt), i + d = l.length → d < j → out.length ≤ i → f_u2_9 k j l (l.length : Int) (i : Int) r out = some (out ++ clipL r (l.drop i), 0) := by
  intro d
  induction d with
  | zero =>
    intro i j out hi hj ho
    obtain ⟨j, rfl⟩ : ∃ q, j = q + 1 := ⟨j - 1, by omega⟩
    rw [f_u2_9, decide_eq_false (by omega : ¬ (i : Int) < (l.length : Int)), cond_false, List.drop_of_length_le (by omega), clipL, List.append_nil]
  | succ d ih =>
    intro i j out hi hj ho
    obtain ⟨j, rfl⟩ : ∃ q, j = q + 1 := ⟨j - 1, by omega⟩
    rw [f_u2_9, decide_eq_true (by omega : (i : Int) < (l.length : Int)), cond_true, if_pos ⟨by omega, by omega⟩, Int.toNat_natCast, wrapS i (by omega), rect_Common_s, rect_Common_v, Option.isSome_some, if_pos rfl, drop_cons' l i T4.dflt (by omega), clipL, if_pos (by rw [List.length_singleton]; omega), ih (i + 1) j _ (by omega) (by omega) (by rw [List.length_append, List.length_singleton]; omega), ih (i + 1) j out (by omega) (by omega) (by omega)]
    unfold clip1
    dsimp only
    cases someB (meetR (l.getD i T4.dflt).1 r)
    · rw [cond_false, if_neg Bool.false_ne_true, List.nil_append]
    · rw [cond_true, if_pos rfl, List.append_assoc]
theorem defect_Clip_s (k : Nat) (hk : 300 ≤ k) (l : List Spt) (r : Rc4) (h : spotsE l = 0) (hr : RectOk r) : f_u2 k l r = some (clipL r l, 0) := by
  have hl := (spotsE_zero h).1
  unfold f_u2
  rw [rect_Check_s, rect_Check_v, rectE_ok hr, defect_Check_s k hk, defect_Check_v k hk, h, Option.isSome_some, if_pos rfl, if_pos rfl]
  exact Clip_9 k r l (by omega) l.length 0 k [] (by omega) (by omega) (by simp)
theorem defect_Clip_v (k : Nat) (hk : 300 ≤ k) (l : List Spt) (r : Rc4) (h : spotsE l = 0) (hr : RectOk r) : v_u2 k l r = (clipL r l, 0) := by
  unfold v_u2; rw [defect_Clip_s k hk l r h hr]; rfl
theorem base_find {L : Int} (h0 : 0 ≤ L) (h1 : L ≤ 17179869184) {x : Spt} (ok : SpotOk x) : (findS (if L > 0 then [(0, L, false)] else []) x.1.2.2).1 = if x.1.2.2.1 < min x.1.2.2.2 L then [(x.1.2.2.1, min x.1.2.2.2 L)] else [] := by
  obtain ⟨⟨p, q, c, d, e, f⟩, _, ft, _, _⟩ := ok
  by_cases hL : L > 0
  · rw [if_pos hL]
    have hg : good ((0 : Int), L, false) := by
      unfold good
      exact ⟨by show 1 ≤ L; omega, h1, Int.le_refl 0, by show (0 : Int) < 17179869184; decide, (fun h => nomatch h), fun _ => by show 0 + L ≤ 17179869184; omega⟩
    have hc : Chk [((0 : Int), L, false)] := ⟨by show 1 ≤ 256; decide, ⟨hg, trivial⟩, by show L + 0 ≤ 17179869184; omega⟩
    unfold findS
    rw [if_neg (fun h => h (chk_zero.2 hc)), if_neg (by omega)]
    have hlo : lo ((0 : Int), L, false) = 0 := rfl
    have hhi : Go.AM.hi ((0 : Int), L, false) = 0 + L - 1 := rfl
    have e : fndS [((0 : Int), L, false)] 0 x.1.2.2 = if x.1.2.2.1 < min x.1.2.2.2 L then [(x.1.2.2.1, min x.1.2.2.2 L)] else [] := by
      unfold fndS fndS
      rw [hlo, hhi, List.append_nil]
      by_cases h : x.1.2.2.1 < min x.1.2.2.2 L
      · rw [if_pos (by omega), if_pos h]
        show [((0 : Int) + (max 0 x.1.2.2.1 - 0), (0 : Int) + (max 0 x.1.2.2.1 - 0) + min (0 + L - 1 + 1) x.1.2.2.2 - max 0 x.1.2.2.1)] = _
        rw [show (0 : Int) + (max 0 x.1.2.2.1 - 0) = x.1.2.2.1 by omega, show x.1.2.2.1 + min (0 + L - 1 + 1) x.1.2.2.2 - max 0 x.1.2.2.1 = min x.1.2.2.2 L by omega]
      · rw [if_neg (by omega), if_neg h]
    show nf (fndS [((0 : Int), L, false)] 0 x.1.2.2) = _
    rw [e]
    by_cases h : x.1.2.2.1 < min x.1.2.2.2 L
    · rw [if_pos h]
      exact nf_self (In.of fun s hs => by rw [List.mem_singleton] at hs; subst hs; exact ⟨d, by show x.1.2.2.1 ≤ min x.1.2.2.2 L; omega, by show min x.1.2.2.2 L ≤ 17179869184; omega⟩) ⟨by show -1 < x.1.2.2.1; omega, h, trivial⟩
    · rw [if_neg h]
      exact nf_self trivial trivial
  · have e : (if L > 0 then [((0 : Int), L, false)] else []) = [] := if_neg hL
    have hc : Chk ([] : List Rn) := ⟨by decide, trivial, by decide⟩
    have hR : ¬ x.1.2.2.1 < min x.1.2.2.2 L := by omega
    rw [e, if_neg hR]
    unfold findS
    rw [if_neg (show ¬ chk ([] : List Rn) ≠ 0 from fun h => h (chk_zero.2 hc)), if_neg (show ¬ (x.1.2.2.1 < 0 ∨ x.1.2.2.1 > x.1.2.2.2 ∨ x.1.2.2.2 > 17179869184) by omega)]
    exact nf_self trivial trivial
theorem base_clip {W L : Int} (h0 : 0 ≤ L) (h1 : L ≤ 17179869184) : ∀ sp : List Spt, (∀ x ∈ sp, SpotOk x) → spGoS (baseS W L) sp = clipL (0, W, 0, L) sp
  | [], _ => rfl
  | x :: t, h => by
    have ok := h x (by simp)
    have hf := base_find h0 h1 ok
    obtain ⟨⟨p, q, c, d, e, f⟩, lr, ft, _, _⟩ := ok
    unfold spGoS clipL
    rw [base_clip h0 h1 t fun y hy => h y (by simp [hy])]
    refine congrArg (· ++ _) ?_
    have hb : baseS W L = (0, W, false, if L > 0 then [(0, L, false)] else []) := rfl
    rw [hb]
    unfold fndl clip1
    dsimp only
    rw [hf]
    unfold someS
    by_cases a1 : max x.1.1 0 ≥ min x.1.2.1 (0 + W)
    · have : someB (meetR x.1 (0, W, 0, L)) = false := decide_eq_false fun h => by
        have h := h.1
        change max x.1.1 0 < min x.1.2.1 W at h
        omega
      rw [if_pos a1, this, if_neg Bool.false_ne_true]
    · rw [if_neg a1]
      by_cases a2 : x.1.2.2.1 < min x.1.2.2.2 L
      · have : someB (meetR x.1 (0, W, 0, L)) = true := decide_eq_true ⟨by show max x.1.1 0 < min x.1.2.1 W; omega, by show max x.1.2.2.1 0 < min x.1.2.2.2 L; omega⟩
        rw [if_pos a2, this, if_pos rfl, if_pos rfl]
        show [((max x.1.1 0 - 0, min x.1.2.1 (0 + W) - 0, x.1.2.2.1, min x.1.2.2.2 L), x.2)] = [((max x.1.1 0, min x.1.2.1 W, max x.1.2.2.1 0, min x.1.2.2.2 L), x.2)]
        rw [Int.sub_zero, Int.sub_zero, Int.zero_add, show max x.1.2.2.1 0 = x.1.2.2.1 by omega]
      · have : someB (meetR x.1 (0, W, 0, L)) = false := decide_eq_false fun h => by
          have h := h.2
          change max x.1.2.2.1 0 < min x.1.2.2.2 L at h
          omega
        rw [if_neg a2, this, if_neg Bool.false_ne_true]; rfl
def sumQ (q : Qn) : List Spt → Int
  | [] => 0
  | x :: t => (if cntQ q x = true then x.1.2.2.2 - x.1.2.2.1 else 0) + sumQ q t
theorem Bounds_13 (k : Nat) (l : List Spt) (w n a b : Int) (x : Pap) (q : Qn) (hl : l.length ≤ 130) (ho : ∀ y ∈ l, 0 ≤ y.1.1 ∧ y.1.1 < y.1.2.1 ∧ y.1.2.1 ≤ w ∧ 0 ≤ y.1.2.2.1 ∧ y.1.2.2.1 < y.1.2.2.2 ∧ y.1.2.2.2 ≤ n) (hn : n ≤ 17179869184) : ∀ (d i j : Nat) (S : Int) (f : Bool) (t : Int), i + d = l.length → d + 600 < j → 0 ≤ S → S ≤ (i : Int) * 17179869184 →
    ∃ j', 500 < j' ∧ f_u48_13 k j l w n a b S f t (i : Int) x q = f_u48_20 k j' l w n a b (S + sumQ q (l.drop i)) (f || (l.drop i).any (cntQ q)) (topS (l.drop i) t) x q := by
  intro d
  induction d with
  | zero =>
    intro i j S f t hi hj h0 h1
    obtain ⟨j, rfl⟩ : ∃ q, j = q + 1 := ⟨j - 1, by omega⟩
    refine ⟨j, by omega, ?_⟩
    rw [f_u48_13, decide_eq_false (by omega : ¬ (i : Int) < (l.length : Int)), cond_false, List.drop_of_length_le (by omega), sumQ, Int.add_zero, List.any_nil, Bool.or_false, topS]
  | succ d ih =>
    intro i j S f t hi hj h0 h1
    obtain ⟨j, rfl⟩ : ∃ q, j = q + 1 := ⟨j - 1, by omega⟩
    obtain ⟨o1, o2, o3, o4, o5, o6⟩ := ho (l.getD i T4.dflt) (getD_mem' _ _ _ (by omega))
    have h3 : (0 : Int) ≤ (i : Int) := by omega
    have h4 : (i : Int) < (l.length : Int) := by omega
    rw [f_u48_13, decide_eq_true h4, cond_true, Int.toNat_natCast, rect_Within_s k o2 o5 o1 o3 o4 o6, rect_Within_v k o2 o5 o1 o3 o4 o6, if_pos ⟨h3, h4, rfl⟩, Bool.not_true, cond_false, if_pos ⟨h3, h4⟩, if_pos ⟨fun _ => h3, fun _ => h4, fun _ => h3, fun _ => h4⟩, if_pos ⟨h3, h4, h3, h4⟩, drop_cons' l i T4.dflt (by omega), sumQ, List.any_cons, topS, wrapS i (by omega)]
    generalize l.getD i T4.dflt = y at *
    rw [show ((q.2.1 == (0 : Int) || y.2.1 == q.2.1) && decide (y.2.2 ≥ q.2.2)) = cntQ q y from rfl]
    cases e : cntQ q y
    · obtain ⟨j', e1, e2⟩ := ih (i + 1) j S f (if y.2.2 > t then y.2.2 else t) (by omega) (by omega) h0 (by omega)
      refine ⟨j', e1, ?_⟩
      rw [cond_false, e2, if_neg Bool.false_ne_true, Int.zero_add, Bool.false_or]
    · obtain ⟨j', e1, e2⟩ := ih (i + 1) j (S + (y.1.2.2.2 - y.1.2.2.1)) true (if y.2.2 > t then y.2.2 else t) (by omega) (by omega) (by omega) (by omega)
      refine ⟨j', e1, ?_⟩
      rw [cond_true, wrap_id (i := S + y.1.2.2.2) (by omega) (by omega), wrap_id (i := S + y.1.2.2.2 - y.1.2.2.1) (by omega) (by omega), show S + y.1.2.2.2 - y.1.2.2.1 = S + (y.1.2.2.2 - y.1.2.2.1) by omega, e2, if_pos rfl, Int.add_assoc, Bool.true_or, Bool.or_true]

/-! ### the length of positions -/
def lenL : List Sp → Int
  | [] => 0
  | s :: t => (s.2 - s.1) + lenL t
theorem cnt_lenL {n : Int} (h0 : 0 ≤ n) : ∀ l : List Sp, (∀ s ∈ l, 0 ≤ s.1 ∧ s.1 < s.2 ∧ s.2 ≤ n) → (cnt (hasT l) NN : Int) ≤ lenL l
  | [], _ => by rw [cnt_false (P := hasT []) NN (fun x _ _ => rfl)]; exact Int.le_refl _
  | s :: t, h => by
    have ih := cnt_lenL h0 t fun q hq => h q (by simp [hq])
    obtain ⟨a, b, c⟩ := h s (by simp)
    have hs := cnt_seg s.1 s.2 a (by omega) NN
    have hor := cnt_or (fun x => decide (s.1 ≤ x) && decide (x < s.2)) (hasT t) NN
    rw [hasT_cons, lenL]
    omega
theorem cnt_within {n : Int} (h0 : 0 ≤ n) {l : List Sp} (h : ∀ s ∈ l, 0 ≤ s.1 ∧ s.1 < s.2 ∧ s.2 ≤ n) : (cnt (hasT l) NN : Int) ≤ n := by
  have h1 := cnt_mono (P := hasT l) (Q := fun x => decide ((0 : Int) ≤ x) && decide (x < n)) NN fun x x0 _ hx => by
    obtain ⟨s, hs, a, b⟩ := (has_iff _ _).1 ((hasT_iff _ _).1 hx)
    have := h s hs
    show (decide ((0 : Int) ≤ x) && decide (x < n)) = true
    rw [decide_eq_true x0, decide_eq_true (by omega : x < n)]; rfl
  have h2 := cnt_seg 0 n (Int.le_refl 0) h0 NN
  omega
theorem lenL_sum (q : Qn) : ∀ l : List Spt, lenL ((l.filter (cntQ q)).map (fun x => x.1.2.2)) = sumQ q l
  | [] => rfl
  | x :: t => by
    rw [List.filter_cons, sumQ]
    cases cntQ q x
    · rw [if_neg Bool.false_ne_true, if_neg Bool.false_ne_true, Int.zero_add]; exact lenL_sum q t
    · rw [if_pos rfl, if_pos rfl, List.map_cons, lenL, lenL_sum q t]
theorem any_filter (q : Qn) (l : List Spt) : l.any (cntQ q) = true ↔ l.filter (cntQ q) ≠ [] := by
  rw [List.any_eq_true]
  constructor
  · rintro ⟨x, hx, h⟩ e
    have : x ∈ l.filter (cntQ q) := List.mem_filter.2 ⟨hx, h⟩
    rw [e] at this; exact absurd this List.not_mem_nil
  · intro h
    obtain ⟨x, hx⟩ := List.exists_mem_of_ne_nil _ h
    obtain ⟨a, b⟩ := List.mem_filter.1 hx
    exact ⟨x, a, b⟩
theorem length_ok {l : List Ro} {W L : Int} {sp : List Spt} {q : Qn} (h : (spotsS l W L sp q.1).2 = 0) : lengthS l W L sp q = (tot (nf (posS l W L sp q)), 0) ∧ (∀ s ∈ posS l W L sp q, 0 ≤ s.1 ∧ s.1 < s.2 ∧ s.2 ≤ (sizeS l W L q.1).2) := by
  have hl := spotsS_len (l := l) (W := W) (L := L) (id := q.1) (sp := sp)
  have hm : ∀ s ∈ posS l W L sp q, 0 ≤ s.1 ∧ s.1 < s.2 ∧ s.2 ≤ (sizeS l W L q.1).2 := fun s hs => by
    obtain ⟨x, hx, e⟩ := List.mem_map.1 hs
    obtain ⟨⟨_, _, _, a, b, c⟩, _⟩ := spots_on (List.mem_filter.1 hx).1
    rw [← e]; exact ⟨a, b, c⟩
  refine ⟨?_, hm⟩
  obtain ⟨c1, c2, c3⟩ := spots_zero h
  obtain ⟨reg, ci⟩ := cut_in c1
  have hsz := reg.small 512 q.1 (reg.anc (cut_err c1).kn)
  have hc : chkS (posS l W L sp q) = 0 := chkS_zero.2 ⟨by
    have := List.length_filter_le (cntQ q) (spotsS l W L sp q.1).1
    show (List.map _ _).length ≤ 256
    rw [List.length_map]; omega, In.of fun s hs => by
    obtain ⟨a, b, c⟩ := hm s hs
    exact ⟨a, by omega, by omega⟩⟩
  unfold lengthS totalS
  rw [if_neg (fun h' : (spotsS l W L sp q.1).2 ≠ 0 => h' h), if_neg (fun h : chkS _ ≠ 0 => h hc)]
theorem bounds_20 (k : Nat) (hk : 301000 ≤ k) (j : Nat) (hj : 500 < j) (x : Pap) (q : Qn) (h1 : (spotsS x.1 x.2.1 x.2.2.1 x.2.2.2 q.1).2 = 0) :
    f_u48_20 k j (spotsS x.1 x.2.1 x.2.2.1 x.2.2.2 q.1).1 (sizeS x.1 x.2.1 x.2.2.1 q.1).1 (sizeS x.1 x.2.1 x.2.2.1 q.1).2 (tot (nf (posS x.1 x.2.1 x.2.2.1 x.2.2.2 q))) (topS (spotsS x.1 x.2.1 x.2.2.1 x.2.2.2 q.1).1 0) (sumQ q (spotsS x.1 x.2.1 x.2.2.1 x.2.2.2 q.1).1) ((spotsS x.1 x.2.1 x.2.2.1 x.2.2.2 q.1).1.any (cntQ q)) (topS (spotsS x.1 x.2.1 x.2.2.1 x.2.2.2 q.1).1 0) x q = some true := by
  obtain ⟨c1, c2, c3⟩ := spots_zero h1
  obtain ⟨reg, ci⟩ := cut_in c1
  have hsz := reg.small 512 q.1 (reg.anc (cut_err c1).kn)
  have hsl := spotsS_len (l := x.1) (W := x.2.1) (L := x.2.2.1) (id := q.1) (sp := x.2.2.2)
  obtain ⟨_, hm⟩ := length_ok (q := q) h1
  have hin : In 0 17179869184 (posS x.1 x.2.1 x.2.2.1 x.2.2.2 q) := In.of fun s hs => by
    obtain ⟨a, b, c⟩ := hm s hs
    exact ⟨a, by omega, by omega⟩
  have t0 := tot_nf hin
  have t1 := cnt_within hsz.2.2.1 hm
  have t2 := cnt_lenL hsz.2.2.1 _ hm
  have t3 : lenL (posS x.1 x.2.1 x.2.2.1 x.2.2.2 q) = sumQ q (spotsS x.1 x.2.1 x.2.2.1 x.2.2.2 q.1).1 := lenL_sum q _
  have tw : topS (spotsS x.1 x.2.1 x.2.2.1 x.2.2.2 q.1).1 0 ≤ topS x.2.2.2 0 := topS_le _ _ (fun y hy => by
    obtain ⟨_, z, hz, e⟩ := spots_on hy
    rw [e]; exact (topS_ge x.2.2.2 0).2 z hz) (topS_ge x.2.2.2 0).1
  have tp : decide (tot (nf (posS x.1 x.2.1 x.2.2.1 x.2.2.2 q)) > 0) = (spotsS x.1 x.2.1 x.2.2.1 x.2.2.2 q.1).1.any (cntQ q) := by
    rw [Bool.eq_iff_iff, decide_eq_true_iff, any_filter]
    constructor
    · intro h e
      have : posS x.1 x.2.1 x.2.2.1 x.2.2.2 q = [] := by unfold posS; rw [e]; rfl
      rw [this, show nf [] = [] from nf_self trivial trivial] at h
      exact absurd h (by decide)
    · intro h
      obtain ⟨y, hy⟩ := List.exists_mem_of_ne_nil _ h
      have hs : y.1.2.2 ∈ posS x.1 x.2.1 x.2.2.1 x.2.2.2 q := List.mem_map_of_mem hy
      obtain ⟨a, b, c⟩ := hm _ hs
      have := cnt_pos (P := hasT (posS x.1 x.2.1 x.2.2.1 x.2.2.2 q)) (n := NN) (x := y.1.2.2.1) a (by show y.1.2.2.1 < (17179869184 : Int); omega) ((hasT_iff _ _).2 ((has_iff _ _).2 ⟨_, hs, Int.le_refl _, b⟩))
      omega
  obtain ⟨j, rfl⟩ : ∃ q, j = q + 2 := ⟨j - 2, by omega⟩
  rw [f_u48_20, defect_Worst_s k (by omega) _ c2, defect_Worst_v k (by omega) _ c2, Option.isSome_some, if_pos rfl, f_u48_21, tp]
  dsimp only
  rw [decide_eq_false (by omega : ¬ topS (spotsS x.1 x.2.1 x.2.2.1 x.2.2.2 q.1).1 0 > topS x.2.2.2 0), decide_eq_false (by omega : ¬ tot (nf (posS x.1 x.2.1 x.2.2.1 x.2.2.2 q)) > (sizeS x.1 x.2.1 x.2.2.1 q.1).2), decide_eq_false (by omega : ¬ tot (nf (posS x.1 x.2.1 x.2.2.1 x.2.2.2 q)) > sumQ q (spotsS x.1 x.2.1 x.2.2.1 x.2.2.2 q.1).1), bne_self_eq_false, bne_self_eq_false, beq_self_eq_true]
  rw [show (false || false || false || false || false || !true) = false from rfl, cond_false, awake43_s k hk, awake43_v k hk]
  by_cases h0 : q.1 = 0
  · have rok : RectOk (0, (sizeS x.1 x.2.1 x.2.2.1 q.1).1, 0, (sizeS x.1 x.2.1 x.2.2.1 q.1).2) := ⟨Int.le_refl 0, hsz.1, hsz.2.1, Int.le_refl 0, hsz.2.2.1, hsz.2.2.2⟩
    have hs0 : sizeS x.1 x.2.1 x.2.2.1 q.1 = (x.2.1, x.2.2.1) := by unfold sizeS; rw [if_pos h0]
    have hcf : (cutFull x.1 x.2.1 x.2.2.1 q.1).1 = baseS x.2.1 x.2.2.1 := by
      unfold cutFull cutS
      rw [if_neg (fun h : errS x.1 x.2.1 x.2.2.1 q.1 ≠ 0 => h (errS_zero.2 (cut_err c1))), if_pos h0]
    have hl := reg.len
    have hcl : clipL (0, (sizeS x.1 x.2.1 x.2.2.1 q.1).1, 0, (sizeS x.1 x.2.1 x.2.2.1 q.1).2) x.2.2.2 = (spotsS x.1 x.2.1 x.2.2.1 x.2.2.2 q.1).1 := by
      rw [c3, hcf, hs0, base_clip hl.1 hl.2 _ (spotsE_zero c2).2]
    have hsame : f_u57 k (spotsS x.1 x.2.1 x.2.2.1 x.2.2.2 q.1).1 (spotsS x.1 x.2.1 x.2.2.1 x.2.2.2 q.1).1 = some true := same36 k _ (by omega) (by omega)
    have hsv : v_u57 k (spotsS x.1 x.2.1 x.2.2.1 x.2.2.2 q.1).1 (spotsS x.1 x.2.1 x.2.2.1 x.2.2.2 q.1).1 = true := by unfold v_u57; rw [hsame]; rfl
    rw [defect_Clip_s k (by omega) _ _ c2 rok, defect_Clip_v k (by omega) _ _ c2 rok, hcl]
    dsimp only
    rw [hsame, hsv, h0]
    rfl
  · rw [show (q.1 == 0) = false from beq_eq_false_iff_ne.2 h0]
    rfl
theorem bounds_7 (k : Nat) (hk : 301000 ≤ k) (j : Nat) (hj : 100000 < j) (x : Pap) (q : Qn) :
    f_u48_7 k j (spotsS x.1 x.2.1 x.2.2.1 x.2.2.2 q.1).1 (spotsS x.1 x.2.1 x.2.2.1 x.2.2.2 q.1).2 (sizeE x.1 x.2.1 x.2.2.1 q.1).1 (sizeE x.1 x.2.1 x.2.2.1 q.1).2.1 (sizeE x.1 x.2.1 x.2.2.1 q.1).2.2 (lengthS x.1 x.2.1 x.2.2.1 x.2.2.2 q).1 (lengthS x.1 x.2.1 x.2.2.1 x.2.2.2 q).2 (worstS x.1 x.2.1 x.2.2.1 x.2.2.2 q.1).1 (worstS x.1 x.2.1 x.2.2.1 x.2.2.2 q.1).2 x q = some true := by
  obtain ⟨j, rfl⟩ : ∃ q, j = q + 1 := ⟨j - 1, by omega⟩
  rw [f_u48_7]
  by_cases h1 : (spotsS x.1 x.2.1 x.2.2.1 x.2.2.2 q.1).2 = 0
  · obtain ⟨c1, c2, c3⟩ := spots_zero h1
    obtain ⟨reg, ci⟩ := cut_in c1
    have hsz := reg.small 512 q.1 (reg.anc (cut_err c1).kn)
    have hsl := spotsS_len (l := x.1) (W := x.2.1) (L := x.2.2.1) (id := q.1) (sp := x.2.2.2)
    have hw : worstS x.1 x.2.1 x.2.2.1 x.2.2.2 q.1 = (topS (spotsS x.1 x.2.1 x.2.2.1 x.2.2.2 q.1).1 0, 0) := by
      unfold worstS; rw [if_neg (fun h' : (spotsS x.1 x.2.1 x.2.2.1 x.2.2.2 q.1).2 ≠ 0 => h' h1)]
    rw [h1, sizeE_cut c1, (length_ok (q := q) h1).1, hw]
    dsimp only
    rw [bne_self_eq_false, cond_false, show (false || false || false) = false from rfl, cond_false]
    obtain ⟨j', e1, e2⟩ := Bounds_13 k (spotsS x.1 x.2.1 x.2.2.1 x.2.2.2 q.1).1 (sizeS x.1 x.2.1 x.2.2.1 q.1).1 (sizeS x.1 x.2.1 x.2.2.1 q.1).2 (tot (nf (posS x.1 x.2.1 x.2.2.1 x.2.2.2 q))) (topS (spotsS x.1 x.2.1 x.2.2.1 x.2.2.2 q.1).1 0) x q (by omega) (fun y hy => (spots_on hy).1) hsz.2.2.2 (spotsS x.1 x.2.1 x.2.2.1 x.2.2.2 q.1).1.length 0 j 0 false 0 (Nat.zero_add _) (by omega) (by decide) (by decide)
    refine e2.trans ?_
    rw [List.drop_zero, Int.zero_add, Bool.false_or]
    exact bounds_20 k hk j' e1 x q h1
  · have hl : lengthS x.1 x.2.1 x.2.2.1 x.2.2.2 q = (0, (spotsS x.1 x.2.1 x.2.2.1 x.2.2.2 q.1).2) := by unfold lengthS; rw [if_pos h1]
    have hw : worstS x.1 x.2.1 x.2.2.1 x.2.2.2 q.1 = (0, (spotsS x.1 x.2.1 x.2.2.1 x.2.2.2 q.1).2) := by unfold worstS; rw [if_pos h1]
    rw [bne_iff_ne.2 h1, hl, hw, spots_err h1, awake43_s k hk, awake43_v k hk]
    dsimp only
    rw [beq_self_eq_true]
    rfl
theorem q_InheritBounds (k : Nat) (hk : 301000 ≤ k) (x : Pap) (q : Qn) : f_u48 k x q = some true := by
  have hs := small_s k (by omega) x
  have hfm : f_u52 k x = some (x.2.1, x.2.2.1) := rfl
  have hvm : v_u52 k x = (x.2.1, x.2.2.1) := rfl
  unfold f_u48
  rw [hs, awake43_s k hk, awake43_v k hk, if_pos rfl, hfm, hvm]
  cases v_u55 k x
  · rfl
  rw [Bool.not_true, cond_false, inherit_Spots_s k (by omega), inherit_Spots_v k (by omega), fam_Size_s k (by omega), fam_Size_v k (by omega), inherit_Length_s k (by omega), inherit_Length_v k (by omega), inherit_Worst_s k (by omega), inherit_Worst_v k (by omega), if_pos ⟨rfl, rfl⟩, if_pos ⟨rfl, rfl⟩, if_pos ⟨rfl, rfl⟩, if_pos ⟨rfl, rfl⟩]
  exact bounds_7 k hk k (by omega) x q
end Go.AM
