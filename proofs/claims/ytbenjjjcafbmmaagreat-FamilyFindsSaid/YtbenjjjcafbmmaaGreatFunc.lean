/- Contracts of the functions that the law reaches, and the plain law. -/
import Derived.Test.YtbenjjjcafbmmaaGreatFunb
set_option linter.unusedVariables false
set_option linter.unusedSimpArgs false
set_option linter.unusedSectionVars false
namespace Go.AM
open Go Go.Proofs Go.IntKind
set_option linter.unusedVariables false
noncomputable section
abbrev RA_u15 : Type := Int
def resA_u15 (r : RA_u15) : AV := .tup [.r (.v (Value.pointer none)), .r (.v (.int .i64 r))]
def boA_u15 (l_ : List (T2).T) (web_ : T5.T) (r : RA_u15) : List (Nat × Blk) := []
abbrev RB_u15 : Type := Int × Int × Int × List (T2).T × (List ((I).T × (I).T))
def resB_u15 (r : RB_u15) : AV := .tup [.ptr 0 0 0, .r (.v (.int .i64 r.1))]
def boB_u15 (l_ : List (T2).T) (web_ : T5.T) (r : RB_u15) : List (Nat × Blk) := [(0, .var 73 [.r (.v (.int .i64 r.2.1)), .r (.v (.int .i64 r.2.2.1)), .r (.ro T2 r.2.2.2.1), .own 1 0]), (0, .map false I I r.2.2.2.2)]
abbrev R_u15 : Type := RA_u15 ⊕ RB_u15
def res_u15 (r : R_u15) : AV := match r with
 | .inl a => resA_u15 a
 | .inr a => resB_u15 a
def bo_u15 (l_ : List (T2).T) (web_ : T5.T) (r : R_u15) : List (Nat × Blk) := match r with
 | .inl a => boA_u15 l_ web_ a
 | .inr a => boB_u15 l_ web_ a
def args_u15 (l_ : List (T2).T) (web_ : T5.T) : List AV := [.r (.ro T2 l_), .agg (rvs (enc T5 web_))]
def bin_u15 (l_ : List (T2).T) (web_ : T5.T) : List Blk := []
def st_u15_8 (y0 : List (T2).T) (y1 : Bool) (y2 : List (T2).T) (y3 : Int) (y4 : Int) (y5 : Int) (y6 : Int) (y7 : List (T2).T) (y8 : List ((I).T × (I).T)) : St := ⟨mkS 97 [(0, .r (.ro T2 y0)), (6, .ptr 1000000 0 0), (7, .r (.v (.bool y1))), (41, .r (.ro T2 y2)), (42, .r (.v (.int .i64 y3))), (43, .r (.v (.int .i64 y4)))], [(1000000, 0, .var 73 [.r (.v (.int .i64 y5)), .r (.v (.int .i64 y6)), .r (.ro T2 y7), .own 1000001 0]), (1000001, 0, .map false I I y8)]⟩
def st_u15_20 (y0 : List (T2).T) (y1 : List (T2).T) (y2 : Int) (y3 : Int) (y4 : Int) (y5 : Int) (y6 : List (T2).T) (y7 : List ((I).T × (I).T)) : St := ⟨mkS 97 [(0, .r (.ro T2 y0)), (6, .ptr 1000000 0 0), (67, .r (.ro T2 y1)), (68, .r (.v (.int .i64 y2))), (69, .r (.v (.int .i64 y3)))], [(1000000, 0, .var 73 [.r (.v (.int .i64 y4)), .r (.v (.int .i64 y5)), .r (.ro T2 y6), .own 1000001 0]), (1000001, 0, .map false I I y7)]⟩
def st_u15_23 (y0 : List (T2).T) (y1 : List (T2).T) (y2 : Int) (y3 : Int) (y4 : List (T2).T) (y5 : Int) (y6 : Int) (y7 : Int) (y8 : Int) (y9 : List (T2).T) (y10 : List ((I).T × (I).T)) (y11 : T2.T) : St := ⟨mkS 97 [(0, .r (.ro T2 y0)), (6, .ptr 1000000 0 0), (12, .ptr 1000002 0 0), (67, .r (.ro T2 y1)), (68, .r (.v (.int .i64 y2))), (69, .r (.v (.int .i64 y3))), (76, .r (.ro T2 y4)), (77, .r (.v (.int .i64 y5))), (78, .r (.v (.int .i64 y6)))], [(1000000, 0, .var 73 [.r (.v (.int .i64 y7)), .r (.v (.int .i64 y8)), .r (.ro T2 y9), .own 1000001 0]), (1000001, 0, .map false I I y10), (1000002, 0, .var 48 (rvs (enc T2 y11)))]⟩
mutual
def f_u15_8 (k : Nat) : Nat → List (T2).T → Bool → List (T2).T → Int → Int → Int → Int → List (T2).T → (List ((I).T × (I).T)) → Option R_u15
 | 0, _, _, _, _, _, _, _, _, _ => none
 | j + 1, y0, y1, y2, y3, y4, y5, y6, y7, y8 =>
 bif (decide (y4 < y3)) then
 if (0 ≤ y4) ∧ (y4 < (↑y2.length : Int)) then
 if ((f_u23 k y5 y6 y7 y8 (y2.getD y4.toNat T2.dflt)).isSome = true) then
 bif (v_u23 k y5 y6 y7 y8 (y2.getD y4.toNat T2.dflt) != (0 : Int)) then
 some ((.inl (v_u23 k y5 y6 y7 y8 (y2.getD y4.toNat T2.dflt))))
 else
 if ((f_u24 k y5 y6 y7 y8 (y2.getD y4.toNat T2.dflt).1).isSome = true) then
 bif (v_u24 k y5 y6 y7 y8 (y2.getD y4.toNat T2.dflt).1) then
 f_u15_8 k j y0 true y2 y3 ((i64.wrap (y4 + 1))) y5 y6 y7 y8
 else
 f_u15_8 k j y0 y1 y2 y3 ((i64.wrap (y4 + 1))) y5 y6 y7 ((mset I (y2.getD y4.toNat T2.dflt).1 y4 y8))
 else none
 else none
 else none
 else
 bif y1 then
 some ((.inl 6))
 else
 f_u15_20 k j y0 y0 ((↑y0.length : Int)) 0 y5 y6 y7 y8
def f_u15_20 (k : Nat) : Nat → List (T2).T → List (T2).T → Int → Int → Int → Int → List (T2).T → (List ((I).T × (I).T)) → Option R_u15
 | 0, _, _, _, _, _, _, _, _ => none
 | j + 1, y0, y1, y2, y3, y4, y5, y6, y7 =>
 bif (decide (y3 < y2)) then
 if (0 ≤ y3) ∧ (y3 < (↑y1.length : Int)) then
 if ((0 : Int) ≤ (0 : Int)) ∧ (0 ≤ y3) ∧ (y3 ≤ (↑y0.length : Int)) then
 f_u15_23 k j y0 y1 y2 y3 ((List.take (y3.toNat - Int.toNat 0) (List.drop (Int.toNat 0) y0))) ((↑ (List.take (y3.toNat - Int.toNat 0) (List.drop (Int.toNat 0) y0)).length : Int)) 0 y4 y5 y6 y7 ((y1.getD y3.toNat T2.dflt))
 else none
 else none
 else
 some ((.inr ((0, y4, y5, y6, y7))))
def f_u15_23 (k : Nat) : Nat → List (T2).T → List (T2).T → Int → Int → List (T2).T → Int → Int → Int → Int → List (T2).T → (List ((I).T × (I).T)) → T2.T → Option R_u15
 | 0, _, _, _, _, _, _, _, _, _, _, _, _ => none
 | j + 1, y0, y1, y2, y3, y4, y5, y6, y7, y8, y9, y10, y11 =>
 bif (decide (y6 < y5)) then
 if (0 ≤ y6) ∧ (y6 < (↑y4.length : Int)) then
 bif (y11.2.1 == (y4.getD y6.toNat T2.dflt).2.1) then
 if ((y11.2.1 == (y4.getD y6.toNat T2.dflt).2.1) = true) ∧ ((f_u16 k y11.2.2 (y4.getD y6.toNat T2.dflt).2.2).isSome = true) then
 bif (true && v_u16 k y11.2.2 (y4.getD y6.toNat T2.dflt).2.2) then
 some ((.inl 12))
 else
 f_u15_23 k j y0 y1 y2 y3 y4 y5 ((i64.wrap (y6 + 1))) y7 y8 y9 y10 y11
 else none
 else
 if ((y11.2.1 == (y4.getD y6.toNat T2.dflt).2.1) = false) then
 f_u15_23 k j y0 y1 y2 y3 y4 y5 ((i64.wrap (y6 + 1))) y7 y8 y9 y10 y11
 else none
 else none
 else
 f_u15_20 k j y0 y1 y2 ((i64.wrap (y3 + 1))) y7 y8 y9 y10
end
def f_u15 (k : Nat) (l_ : List (T2).T) (web_ : T5.T) : Option R_u15 :=
 bif (decide (web_.1 < (1 : Int)) || decide (web_.1 > (12000 : Int)) || decide (web_.2 < (0 : Int)) || decide (web_.2 > (17179869184 : Int))) then
 some ((.inl 1))
 else
 bif (decide ((↑l_.length : Int) > (512 : Int))) then
 some ((.inl 8))
 else
 f_u15_8 k k l_ false l_ ((↑l_.length : Int)) 0 web_.1 web_.2 l_ ([])
def v_u15 (k : Nat) (l_ : List (T2).T) (web_ : T5.T) : R_u15 := (f_u15 k l_ web_).getD (.inl 0)
def vA_u15 (k : Nat) (l_ : List (T2).T) (web_ : T5.T) : RA_u15 := lft 0 (v_u15 k l_ web_)
def vB_u15 (k : Nat) (l_ : List (T2).T) (web_ : T5.T) : RB_u15 := rgt ((0, 0, 0, [], [])) (v_u15 k l_ web_)
def K_u15 (k : Nat) : Calld := ⟨fun g xs => match g with
 | 60 => match xs with
  | [_, _] => some [false, false]
  | _ => none
 | 49 => match xs with
  | [.ptr _ _ _, _] => some [true, false]
  | _ => none
 | 59 => match xs with
  | [.ptr _ _ _, _] => some [true, false]
  | _ => none
 | _ => none, fun g xs bs => match g with
 | 60 => match xs, bs with
  | [.agg qa_, .agg qb_], [] => (decS [] T1 qa_).bind fun a_ => (decS [] T1 qb_).bind fun b_ => some (.one (res_u16 (v_u16 k a_ b_), bo_u16 a_ b_ (v_u16 k a_ b_)))
  | _, _ => none
 | 49 => match xs, bs with
  | [.ptr 0 0 0, .r (.v (.int .i64 id_))], [.var 73 [.r (.v (.int .i64 g_0)), .r (.v (.int .i64 g_1)), .r (.ro tg_2_ qg_2), .own 1 0], .map false kg_3_ tg_3_ qg_3] => (castL tg_2_ T2 qg_2).bind fun g_2 => (castM kg_3_ tg_3_ I I qg_3).bind fun g_3 => some (.one (res_u24 (v_u24 k g_0 g_1 g_2 g_3 id_), bo_u24 g_0 g_1 g_2 g_3 id_ (v_u24 k g_0 g_1 g_2 g_3 id_)))
  | _, _ => none
 | 59 => match xs, bs with
  | [.ptr 0 0 0, .agg qr_], [.var 73 [.r (.v (.int .i64 g_0)), .r (.v (.int .i64 g_1)), .r (.ro tg_2_ qg_2), .own 1 0], .map false kg_3_ tg_3_ qg_3] => (decS [] T2 qr_).bind fun r_ => (castL tg_2_ T2 qg_2).bind fun g_2 => (castM kg_3_ tg_3_ I I qg_3).bind fun g_3 => some (.one (res_u23 (v_u23 k g_0 g_1 g_2 g_3 r_), bo_u23 g_0 g_1 g_2 g_3 r_ (v_u23 k g_0 g_1 g_2 g_3 r_)))
  | _, _ => none
 | _ => none⟩
theorem ev_u15 (k : Nat) (l_ : List (T2).T) (web_ : T5.T) : ∀ j, (∀ (y0 : List (T2).T) (y1 : Bool) (y2 : List (T2).T) (y3 : Int) (y4 : Int) (y5 : Int) (y6 : Int) (y7 : List (T2).T) (y8 : List ((I).T × (I).T)) (r : R_u15), f_u15_8 k j y0 y1 y2 y3 y4 y5 y6 y7 y8 = some r → Ev Tryz.prog Tryz.f39 0 (placeAt Tryz.f39 8) (st_u15_8 y0 y1 y2 y3 y4 y5 y6 y7 y8) (res_u15 r) (bo_u15 l_ web_ r)) ∧ (∀ (y0 : List (T2).T) (y1 : List (T2).T) (y2 : Int) (y3 : Int) (y4 : Int) (y5 : Int) (y6 : List (T2).T) (y7 : List ((I).T × (I).T)) (r : R_u15), f_u15_20 k j y0 y1 y2 y3 y4 y5 y6 y7 = some r → Ev Tryz.prog Tryz.f39 0 (placeAt Tryz.f39 20) (st_u15_20 y0 y1 y2 y3 y4 y5 y6 y7) (res_u15 r) (bo_u15 l_ web_ r)) ∧ (∀ (y0 : List (T2).T) (y1 : List (T2).T) (y2 : Int) (y3 : Int) (y4 : List (T2).T) (y5 : Int) (y6 : Int) (y7 : Int) (y8 : Int) (y9 : List (T2).T) (y10 : List ((I).T × (I).T)) (y11 : T2.T) (r : R_u15), f_u15_23 k j y0 y1 y2 y3 y4 y5 y6 y7 y8 y9 y10 y11 = some r → Ev Tryz.prog Tryz.f39 0 (placeAt Tryz.f39 23) (st_u15_23 y0 y1 y2 y3 y4 y5 y6 y7 y8 y9 y10 y11) (res_u15 r) (bo_u15 l_ web_ r))
 | 0 => by
  refine ⟨?_, ?_, ?_⟩ <;> intros <;> rename_i h <;> simp [f_u15_8, f_u15_20, f_u15_23] at h
 | j + 1 => by
  have ih := ev_u15 k l_ web_ j
  refine ⟨?_, ?_, ?_⟩
  ·intro y0 y1 y2 y3 y4 y5 y6 y7 y8 r h
   rw [f_u15_8] at h
   refine Ev.tree hm (R := Rt) (K := (K_u15 k)) (l := []) (C := [(8, [.autoB [0, 6, 7, 41, 42, 43] false []]), (20, [.autoB [0, 6, 67, 68, 69] false []]), (23, [.autoB [0, 6, 12, 67, 68, 69, 76, 77, 78] false []])]) (E := [.autoB [4, 5] true []]) (n := 1000) (T := .test ((decide (y4 < y3))) (.need [0 ≤ y4, y4 < (↑y2.length : Int)] (.need [CC Tryz.prog 59 (args_u23 y5 y6 y7 y8 (y2.getD y4.toNat T2.dflt)) (bin_u23 y5 y6 y7 y8 (y2.getD y4.toNat T2.dflt)) (res_u23 (v_u23 k y5 y6 y7 y8 (y2.getD y4.toNat T2.dflt))) (bo_u23 y5 y6 y7 y8 (y2.getD y4.toNat T2.dflt) (v_u23 k y5 y6 y7 y8 (y2.getD y4.toNat T2.dflt)))] (.test ((v_u23 k y5 y6 y7 y8 (y2.getD y4.toNat T2.dflt) != (0 : Int))) (.leaf (resA_u15 (v_u23 k y5 y6 y7 y8 (y2.getD y4.toNat T2.dflt))) (boA_u15 l_ web_ (v_u23 k y5 y6 y7 y8 (y2.getD y4.toNat T2.dflt)))) (.need [CC Tryz.prog 49 (args_u24 y5 y6 y7 y8 (y2.getD y4.toNat T2.dflt).1) (bin_u24 y5 y6 y7 y8 (y2.getD y4.toNat T2.dflt).1) (res_u24 (v_u24 k y5 y6 y7 y8 (y2.getD y4.toNat T2.dflt).1)) (bo_u24 y5 y6 y7 y8 (y2.getD y4.toNat T2.dflt).1 (v_u24 k y5 y6 y7 y8 (y2.getD y4.toNat T2.dflt).1))] (.test ((v_u24 k y5 y6 y7 y8 (y2.getD y4.toNat T2.dflt).1)) (.cut 8 (placeAt Tryz.f39 8) (st_u15_8 y0 true y2 y3 ((i64.wrap (y4 + 1))) y5 y6 y7 y8)) (.cut 8 (placeAt Tryz.f39 8) (st_u15_8 y0 y1 y2 y3 ((i64.wrap (y4 + 1))) y5 y6 y7 ((mset I (y2.getD y4.toNat T2.dflt).1 y4 y8))))))))) (.test (y1) (.leaf (resA_u15 6) (boA_u15 l_ web_ 6)) (.cut 20 (placeAt Tryz.f39 20) (st_u15_20 y0 y0 ((↑y0.length : Int)) 0 y5 y6 y7 y8)))) (by kernel_rfl) ?_
   refine ⟨fun c => ?_, fun c => ?_⟩
   ·rw [cond_t (show ((decide (y4 < y3))) = true from c)] at h
    by_cases q : (0 ≤ y4) ∧ (y4 < (↑y2.length : Int))
    ·rw [if_pos q] at h
     refine ⟨(conjC q.1 (conjC q.2 conj0)), ?_⟩
     by_cases q : ((f_u23 k y5 y6 y7 y8 (y2.getD y4.toNat T2.dflt)).isSome = true)
     ·rw [if_pos q] at h
      refine ⟨(conjC (cc_u23 k y5 y6 y7 y8 (y2.getD y4.toNat T2.dflt) q) conj0), ?_⟩
      refine ⟨fun c => ?_, fun c => ?_⟩
      ·rw [cond_t (show ((v_u23 k y5 y6 y7 y8 (y2.getD y4.toNat T2.dflt) != (0 : Int))) = true from c)] at h
       cases h; exact ⟨rfl, rfl⟩
      ·rw [cond_f (show ((v_u23 k y5 y6 y7 y8 (y2.getD y4.toNat T2.dflt) != (0 : Int))) = false from c)] at h
       by_cases q : ((f_u24 k y5 y6 y7 y8 (y2.getD y4.toNat T2.dflt).1).isSome = true)
       ·rw [if_pos q] at h
        refine ⟨(conjC (cc_u24 k y5 y6 y7 y8 (y2.getD y4.toNat T2.dflt).1 q) conj0), ?_⟩
        refine ⟨fun c => ?_, fun c => ?_⟩
        ·rw [cond_t (show ((v_u24 k y5 y6 y7 y8 (y2.getD y4.toNat T2.dflt).1)) = true from c)] at h
         exact ih.1 y0 true y2 y3 ((i64.wrap (y4 + 1))) y5 y6 y7 y8 _ h
        ·rw [cond_f (show ((v_u24 k y5 y6 y7 y8 (y2.getD y4.toNat T2.dflt).1)) = false from c)] at h
         exact ih.1 y0 y1 y2 y3 ((i64.wrap (y4 + 1))) y5 y6 y7 ((mset I (y2.getD y4.toNat T2.dflt).1 y4 y8)) _ h
       ·rw [if_neg q] at h; cases h
     ·rw [if_neg q] at h; cases h
    ·rw [if_neg q] at h; cases h
   ·rw [cond_f (show ((decide (y4 < y3))) = false from c)] at h
    refine ⟨fun c => ?_, fun c => ?_⟩
    ·rw [cond_t (show y1 = true from c)] at h
     cases h; exact ⟨rfl, rfl⟩
    ·rw [cond_f (show y1 = false from c)] at h
     exact ih.2.1 y0 y0 ((↑y0.length : Int)) 0 y5 y6 y7 y8 _ h
  ·intro y0 y1 y2 y3 y4 y5 y6 y7 r h
   rw [f_u15_20] at h
   refine Ev.tree hm (R := Rt) (K := (K_u15 k)) (l := []) (C := [(8, [.autoB [0, 6, 7, 41, 42, 43] false []]), (20, [.autoB [0, 6, 67, 68, 69] false []]), (23, [.autoB [0, 6, 12, 67, 68, 69, 76, 77, 78] false []])]) (E := [.autoB [4, 5] true []]) (n := 1000) (T := .test ((decide (y3 < y2))) (.need [0 ≤ y3, y3 < (↑y1.length : Int)] (.need [(0 : Int) ≤ (0 : Int), 0 ≤ y3, y3 ≤ (↑y0.length : Int)] (.cut 23 (placeAt Tryz.f39 23) (st_u15_23 y0 y1 y2 y3 ((List.take (y3.toNat - Int.toNat 0) (List.drop (Int.toNat 0) y0))) ((↑ (List.take (y3.toNat - Int.toNat 0) (List.drop (Int.toNat 0) y0)).length : Int)) 0 y4 y5 y6 y7 ((y1.getD y3.toNat T2.dflt)))))) (.leaf (resB_u15 ((0, y4, y5, y6, y7))) (boB_u15 l_ web_ ((0, y4, y5, y6, y7))))) (by kernel_rfl) ?_
   refine ⟨fun c => ?_, fun c => ?_⟩
   ·rw [cond_t (show ((decide (y3 < y2))) = true from c)] at h
    by_cases q : (0 ≤ y3) ∧ (y3 < (↑y1.length : Int))
    ·rw [if_pos q] at h
     refine ⟨(conjC q.1 (conjC q.2 conj0)), ?_⟩
     by_cases q : ((0 : Int) ≤ (0 : Int)) ∧ (0 ≤ y3) ∧ (y3 ≤ (↑y0.length : Int))
     ·rw [if_pos q] at h
      refine ⟨(conjC q.1 (conjC q.2.1 (conjC q.2.2 conj0))), ?_⟩
      exact ih.2.2 y0 y1 y2 y3 ((List.take (y3.toNat - Int.toNat 0) (List.drop (Int.toNat 0) y0))) ((↑ (List.take (y3.toNat - Int.toNat 0) (List.drop (Int.toNat 0) y0)).length : Int)) 0 y4 y5 y6 y7 ((y1.getD y3.toNat T2.dflt)) _ h
     ·rw [if_neg q] at h; cases h
    ·rw [if_neg q] at h; cases h
   ·rw [cond_f (show ((decide (y3 < y2))) = false from c)] at h
    cases h; exact ⟨rfl, rfl⟩
  ·intro y0 y1 y2 y3 y4 y5 y6 y7 y8 y9 y10 y11 r h
   rw [f_u15_23] at h
   refine Ev.tree hm (R := Rt) (K := (K_u15 k)) (l := []) (C := [(8, [.autoB [0, 6, 7, 41, 42, 43] false []]), (20, [.autoB [0, 6, 67, 68, 69] false []]), (23, [.autoB [0, 6, 12, 67, 68, 69, 76, 77, 78] false []])]) (E := [.autoB [4, 5] true []]) (n := 1000) (T := .test ((decide (y6 < y5))) (.need [0 ≤ y6, y6 < (↑y4.length : Int)] (.test ((y11.2.1 == (y4.getD y6.toNat T2.dflt).2.1)) (.need [(y11.2.1 == (y4.getD y6.toNat T2.dflt).2.1) = true, CC Tryz.prog 60 (args_u16 y11.2.2 (y4.getD y6.toNat T2.dflt).2.2) (bin_u16 y11.2.2 (y4.getD y6.toNat T2.dflt).2.2) (res_u16 (v_u16 k y11.2.2 (y4.getD y6.toNat T2.dflt).2.2)) (bo_u16 y11.2.2 (y4.getD y6.toNat T2.dflt).2.2 (v_u16 k y11.2.2 (y4.getD y6.toNat T2.dflt).2.2))] (.test ((true && v_u16 k y11.2.2 (y4.getD y6.toNat T2.dflt).2.2)) (.leaf (resA_u15 12) (boA_u15 l_ web_ 12)) (.cut 23 (placeAt Tryz.f39 23) (st_u15_23 y0 y1 y2 y3 y4 y5 ((i64.wrap (y6 + 1))) y7 y8 y9 y10 y11)))) (.need [(y11.2.1 == (y4.getD y6.toNat T2.dflt).2.1) = false] (.test (false) (.leaf (.tup [.r (.v (Value.pointer none)), .r (.v (.int .i64 12))]) []) (.cut 23 (placeAt Tryz.f39 23) (st_u15_23 y0 y1 y2 y3 y4 y5 ((i64.wrap (y6 + 1))) y7 y8 y9 y10 y11)))))) (.cut 20 (placeAt Tryz.f39 20) (st_u15_20 y0 y1 y2 ((i64.wrap (y3 + 1))) y7 y8 y9 y10))) (by kernel_rfl) ?_
   refine ⟨fun c => ?_, fun c => ?_⟩
   ·rw [cond_t (show ((decide (y6 < y5))) = true from c)] at h
    by_cases q : (0 ≤ y6) ∧ (y6 < (↑y4.length : Int))
    ·rw [if_pos q] at h
     refine ⟨(conjC q.1 (conjC q.2 conj0)), ?_⟩
     refine ⟨fun c => ?_, fun c => ?_⟩
     ·rw [cond_t (show ((y11.2.1 == (y4.getD y6.toNat T2.dflt).2.1)) = true from c)] at h
      by_cases q : ((y11.2.1 == (y4.getD y6.toNat T2.dflt).2.1) = true) ∧ ((f_u16 k y11.2.2 (y4.getD y6.toNat T2.dflt).2.2).isSome = true)
      ·rw [if_pos q] at h
       refine ⟨(conjC q.1 (conjC (cc_u16 k y11.2.2 (y4.getD y6.toNat T2.dflt).2.2 q.2) conj0)), ?_⟩
       refine ⟨fun c => ?_, fun c => ?_⟩
       ·rw [cond_t (show ((true && v_u16 k y11.2.2 (y4.getD y6.toNat T2.dflt).2.2)) = true from c)] at h
        cases h; exact ⟨rfl, rfl⟩
       ·rw [cond_f (show ((true && v_u16 k y11.2.2 (y4.getD y6.toNat T2.dflt).2.2)) = false from c)] at h
        exact ih.2.2 y0 y1 y2 y3 y4 y5 ((i64.wrap (y6 + 1))) y7 y8 y9 y10 y11 _ h
      ·rw [if_neg q] at h; cases h
     ·rw [cond_f (show ((y11.2.1 == (y4.getD y6.toNat T2.dflt).2.1)) = false from c)] at h
      by_cases q : ((y11.2.1 == (y4.getD y6.toNat T2.dflt).2.1) = false)
      ·rw [if_pos q] at h
       refine ⟨(conjC q conj0), ?_⟩
       refine ⟨fun c => ?_, fun c => ?_⟩
       ·cases c
       exact ih.2.2 y0 y1 y2 y3 y4 y5 ((i64.wrap (y6 + 1))) y7 y8 y9 y10 y11 _ h
      ·rw [if_neg q] at h; cases h
    ·rw [if_neg q] at h; cases h
   ·rw [cond_f (show ((decide (y6 < y5))) = false from c)] at h
    exact ih.2.1 y0 y1 y2 ((i64.wrap (y3 + 1))) y7 y8 y9 y10 _ h
theorem of_u15 (k : Nat) (l_ : List (T2).T) (web_ : T5.T) (r : R_u15) (h : f_u15 k l_ web_ = some r) : CC Tryz.prog 39 (args_u15 l_ web_) (bin_u15 l_ web_) (res_u15 r) (bo_u15 l_ web_ r) := by
 refine CC.of (fn := Tryz.f39) (by kernel_rfl) (by kernel_rfl) (by kernel_rfl) (by kernel_rfl) ?_
 unfold f_u15 at h
 refine Ev.tree hm (R := Rt) (K := (K_u15 k)) (l := []) (C := [(8, [.autoB [0, 6, 7, 41, 42, 43] false []]), (20, [.autoB [0, 6, 67, 68, 69] false []]), (23, [.autoB [0, 6, 12, 67, 68, 69, 76, 77, 78] false []])]) (E := [.autoB [4, 5] true []]) (n := 1000) (T := .test ((decide (web_.1 < (1 : Int)) || decide (web_.1 > (12000 : Int)) || decide (web_.2 < (0 : Int)) || decide (web_.2 > (17179869184 : Int)))) (.leaf (resA_u15 1) (boA_u15 l_ web_ 1)) (.test ((decide ((↑l_.length : Int) > (512 : Int)))) (.leaf (resA_u15 8) (boA_u15 l_ web_ 8)) (.cut 8 (placeAt Tryz.f39 8) (st_u15_8 l_ false l_ ((↑l_.length : Int)) 0 web_.1 web_.2 l_ ([]))))) (by kernel_rfl) ?_
 refine ⟨fun c => ?_, fun c => ?_⟩
 ·rw [cond_t (show ((decide (web_.1 < (1 : Int)) || decide (web_.1 > (12000 : Int)) || decide (web_.2 < (0 : Int)) || decide (web_.2 > (17179869184 : Int)))) = true from c)] at h
  cases h; exact ⟨rfl, rfl⟩
 ·rw [cond_f (show ((decide (web_.1 < (1 : Int)) || decide (web_.1 > (12000 : Int)) || decide (web_.2 < (0 : Int)) || decide (web_.2 > (17179869184 : Int)))) = false from c)] at h
  refine ⟨fun c => ?_, fun c => ?_⟩
  ·rw [cond_t (show ((decide ((↑l_.length : Int) > (512 : Int)))) = true from c)] at h
   cases h; exact ⟨rfl, rfl⟩
  ·rw [cond_f (show ((decide ((↑l_.length : Int) > (512 : Int)))) = false from c)] at h
   exact (ev_u15 k l_ web_ k).1 l_ false l_ ((↑l_.length : Int)) 0 web_.1 web_.2 l_ ([]) _ h
theorem cc_u15 (k : Nat) (l_ : List (T2).T) (web_ : T5.T) (h : (f_u15 k l_ web_).isSome = true) : CC Tryz.prog 39 (args_u15 l_ web_) (bin_u15 l_ web_) (res_u15 (v_u15 k l_ web_)) (bo_u15 l_ web_ (v_u15 k l_ web_)) := by
 cases e : f_u15 k l_ web_ with
 | none => rw [e] at h; cases h
 | some r => rw [show v_u15 k l_ web_ = r by simp [v_u15, e]]; exact of_u15 k l_ web_ r e
theorem ccA_u15 (k : Nat) (l_ : List (T2).T) (web_ : T5.T) (h : (f_u15 k l_ web_).isSome = true) (hb : (v_u15 k l_ web_).isLeft = true) : CC Tryz.prog 39 (args_u15 l_ web_) (bin_u15 l_ web_) (resA_u15 (vA_u15 k l_ web_)) (boA_u15 l_ web_ (vA_u15 k l_ web_)) := by
 have h1 := cc_u15 k l_ web_ h
 unfold vA_u15
 cases e : v_u15 k l_ web_ with
 | inl a => rw [e] at h1 hb; exact h1
 | inr a => rw [e] at h1 hb; cases hb
theorem ccB_u15 (k : Nat) (l_ : List (T2).T) (web_ : T5.T) (h : (f_u15 k l_ web_).isSome = true) (hb : (v_u15 k l_ web_).isLeft = false) : CC Tryz.prog 39 (args_u15 l_ web_) (bin_u15 l_ web_) (resB_u15 (vB_u15 k l_ web_)) (boB_u15 l_ web_ (vB_u15 k l_ web_)) := by
 have h1 := cc_u15 k l_ web_ h
 unfold vB_u15
 cases e : v_u15 k l_ web_ with
 | inl a => rw [e] at h1 hb; cases hb
 | inr a => rw [e] at h1 hb; exact h1

end
end Go.AM
namespace Go.AM
open Go Go.Proofs Go.IntKind
set_option linter.unusedVariables false
noncomputable section
end
end Go.AM
namespace Go.AM
open Go Go.Proofs Go.IntKind

def Wl (p : List Ro) : Prop := ∀ r ∈ p, Small r.2.2
theorem Wl.size {p : List Ro} {W L : Int} (h : Wl p) (hW : 0 ≤ W ∧ W ≤ 12000) (id : Int) : 0 ≤ (sizeS p W L id).1 ∧ (sizeS p W L id).1 ≤ 12000 := by
 unfold sizeS
 by_cases h0 : id = 0
 ·rw [if_pos h0]; exact hW
 ·rw [if_neg h0]
  cases e : look p id with
  | none => exact ⟨by decide, by decide⟩
  | some q =>
   obtain ⟨a, b, c, _⟩ := h q (look_some e).1
   exact ⟨by show 0 ≤ q.2.2.2.1; omega, by show q.2.2.2.1 ≤ _; omega⟩
theorem Wl.snoc {p : List Ro} {W L : Int} {r : Ro} (h : Wl p) (hW : 0 ≤ W ∧ W ≤ 12000) (f : fitsS p W L r = 0) : Wl (p ++ [r]) := by
 obtain ⟨_, _, _, c⟩ := fitsS_zero.1 f
 obtain ⟨s1, s2⟩ := h.size (L := L) hW r.2.1
 intro q hq
 rcases List.mem_append.1 hq with hq | hq
 ·exact h q hq
 ·rw [List.mem_singleton] at hq
  subst hq
  have := c.right
  exact ⟨c.left, c.width, by omega, c.chk⟩

theorem fam_size_s (k : Nat) (hk : 2100 ≤ k) (W L : Int) (p t : List Ro) (M : List (Int × Int)) (id : Int) (hp : Wl p) (hM : RegOk M p) (h : id = 0 ∨ ∃ q, look p id = some q) : f_u27 k W L (p ++ t) M id = some (sizeS p W L id) := by
 unfold f_u27 sizeS
 by_cases h0 : id = 0
 ·rw [if_pos h0, show (id == 0) = true from beq_iff_eq.2 h0, cond_true]
 ·rw [if_neg h0, show (id == 0) = false from beq_false_of_ne h0, cond_false]
  rcases h with h | ⟨q, h⟩
  ·exact absurd h h0
  ·obtain ⟨i, e1, e2, e3⟩ := (hM id).some h
   have hl : (p ++ t).length = p.length + t.length := List.length_append
   have hs := hp q (look_some h).1
   have hi : (i : Int) < ((p ++ t).length : Int) := by omega
   rw [e1, Option.getD_some, if_pos ⟨by omega, hi⟩, Int.toNat_natCast, getD_app _ _ _ _ e2, e3, h]
   show (if (f_u36 k q.2.2.2.2.2).isSome = true then some (q.2.2.2.1, (v_u36 k q.2.2.2.2.2).1) else none) = _
   rw [iso_Length_s k hk _ hs.chk, iso_Length_v k hk _ hs.chk]
   rfl
theorem fam_size_v (k : Nat) (hk : 2100 ≤ k) (W L : Int) (p t : List Ro) (M : List (Int × Int)) (id : Int) (hp : Wl p) (hM : RegOk M p) (h : id = 0 ∨ ∃ q, look p id = some q) : v_u27 k W L (p ++ t) M id = sizeS p W L id := by
 unfold v_u27; rw [fam_size_s k hk W L p t M id hp hM h]; rfl

theorem fam_fits_17 (k : Nat) (W L : Int) (l : List Ro) (M : List (Int × Int)) (r : Ro) (n : Int) (m : List Rn) (hm : goods m) (hl : m.length ≤ 256) : ∀ (d i j : Nat), i + d = m.length → d < j →
  f_u23_17 k W L l M r j n m (m.length : Int) (i : Int) = some (if fitsIn n (m.drop i) then 0 else 21) := by
 intro d
 induction d with
 | zero =>
  intro i j hi hj
  obtain ⟨j, rfl⟩ : ∃ q, j = q + 1 := ⟨j - 1, by omega⟩
  rw [f_u23_17, decide_eq_false (by omega : ¬ (i : Int) < (m.length : Int)), cond_false, List.drop_of_length_le (by omega), if_pos (by trivial)]
 | succ d ih =>
  intro i j hi hj
  obtain ⟨j, rfl⟩ : ∃ q, j = q + 1 := ⟨j - 1, by omega⟩
  have hg : good (m.getD i T0.dflt) := hm.mem _ (getD_mem' _ _ _ (by omega))
  rw [f_u23_17, decide_eq_true (by omega : (i : Int) < (m.length : Int)), cond_true, if_pos ⟨by omega, by omega⟩, Int.toNat_natCast, fam_bounds_s k _ hg, fam_bounds_v k _ hg, Option.isSome_some, if_pos rfl, drop_cons' m i T0.dflt (by omega), wrapS i (by omega)]
  show (bif decide (Go.AM.hi (m.getD i T0.dflt) ≥ n) then _ else _) = _
  by_cases h : Go.AM.hi (m.getD i T0.dflt) ≥ n
  ·rw [decide_eq_true h, cond_true, if_neg (fun e : fitsIn n (m.getD i T0.dflt :: m.drop (i + 1)) => by have := e.1; omega)]
  ·rw [decide_eq_false h, cond_false, ih (i + 1) j (by omega) (by omega)]
   by_cases h2 : fitsIn n (m.drop (i + 1))
   ·rw [if_pos h2, if_pos (show fitsIn n (m.getD i T0.dflt :: m.drop (i + 1)) from ⟨by omega, h2⟩)]
   ·rw [if_neg h2, if_neg (fun e : fitsIn n (m.getD i T0.dflt :: m.drop (i + 1)) => h2 e.2)]
theorem cut_test (c : Ch) (w : Int) (hw : 0 ≤ w ∧ w ≤ 12000) : (decide (c.1 < (0 : Int)) || decide (c.2.1 < (1 : Int)) || decide (c.1 > w) || decide (c.2.1 > i64.wrap (w - c.1))) = decide (c.1 < 0 ∨ c.2.1 < 1 ∨ c.1 > w ∨ c.2.1 > w - c.1) := by
 by_cases h1 : c.1 < 0
 ·rw [decide_eq_true h1, Bool.true_or, Bool.true_or, Bool.true_or, decide_eq_true (Or.inl h1)]
 ·by_cases h2 : c.2.1 < 1
  ·rw [decide_eq_true h2, Bool.or_true, Bool.true_or, Bool.true_or, decide_eq_true (Or.inr (Or.inl h2))]
  ·by_cases h3 : c.1 > w
   ·rw [decide_eq_true h3, Bool.or_true, Bool.true_or, decide_eq_true (Or.inr (Or.inr (Or.inl h3)))]
   ·rw [decide_eq_false h1, decide_eq_false h2, decide_eq_false h3, wrap_id (by omega) (by omega), Bool.or_false, Bool.or_false, Bool.false_or]
    by_cases h4 : c.2.1 > w - c.1
    ·rw [decide_eq_true h4, decide_eq_true (Or.inr (Or.inr (Or.inr h4)))]
    ·rw [decide_eq_false h4, decide_eq_false (by omega)]
theorem fam_fits_tail (k : Nat) (hk : 2100 ≤ k) (W L : Int) (l : List Ro) (M : List (Int × Int)) (r : Ro) (c : Ch) (w n : Int) (hw : 0 ≤ w ∧ w ≤ 12000) :
  (bif (decide (c.1 < (0 : Int)) || decide (c.2.1 < (1 : Int)) || decide (c.1 > w) || decide (c.2.1 > i64.wrap (w - c.1))) then some 20
  else if ((f_u32 k c.2.2.2).isSome = true) then
   bif (v_u32 k c.2.2.2 != (0 : Int)) then some (v_u32 k c.2.2.2)
   else bif ((↑ (List.length c.2.2.2) : Int) == (0 : Int)) then some 10
   else if ((f_u37 k c.2.2.2).isSome = true) then
    bif (!v_u37 k c.2.2.2) then some 12
    else f_u23_17 k W L l M r k n c.2.2.2 ((↑ (List.length c.2.2.2) : Int)) 0
   else none
  else none) = some (cutE c w n) := by
 unfold cutE
 rw [cut_test c w hw, iso_Check_s k (by omega), iso_Check_v k (by omega), Option.isSome_some, if_pos rfl, iso_Single_s k hk, iso_Single_v k hk, Option.isSome_some, if_pos rfl]
 by_cases h1 : c.1 < 0 ∨ c.2.1 < 1 ∨ c.1 > w ∨ c.2.1 > w - c.1
 ·rw [decide_eq_true h1, cond_true, if_pos h1]
 ·rw [decide_eq_false h1, cond_false, if_neg h1]
  by_cases h2 : chk c.2.2.2 = 0
  ·have hc := chk_zero.1 h2
   have hl := hc.len
   rw [show (chk c.2.2.2 != 0) = false by simp [h2], cond_false, if_neg (fun h : chk c.2.2.2 ≠ 0 => h h2)]
   by_cases h3 : c.2.2.2 = []
   ·rw [h3, if_pos rfl]; rfl
   ·rw [if_neg h3, show (((List.length c.2.2.2 : Nat) : Int) == 0) = false from beq_false_of_ne (fun e => h3 (List.length_eq_zero_iff.1 (by omega))), cond_false]
    cases h4 : singleS c.2.2.2
    ·rfl
    ·rw [Bool.not_true, cond_false, if_neg (by decide)]
     refine (fam_fits_17 k W L l M r n c.2.2.2 hc.goods hl c.2.2.2.length 0 k (by omega) (by omega)).trans ?_
     rw [List.drop_zero]
  ·rw [show (chk c.2.2.2 != 0) = true by simp [h2], cond_true, if_pos h2]
theorem fam_fits_s (k : Nat) (hk : 2100 ≤ k) (W L : Int) (hW : 0 ≤ W ∧ W ≤ 12000) (p t : List Ro) (M : List (Int × Int)) (r : Ro) (hp : Wl p) (hM : RegOk M p) : f_u23 k W L (p ++ t) M r = some (fitsS p W L r) := by
 unfold f_u23 fitsS
 by_cases h1 : r.1 < 1 ∨ r.1 > 1000000
 ·rw [if_pos h1, show (decide (r.1 < 1) || decide (r.1 > 1000000)) = true by simpa using h1, cond_true]
 ·rw [if_neg h1, show (decide (r.1 < 1) || decide (r.1 > 1000000)) = false by simp; omega, cond_false]
  have hs := hp.size (L := L) hW r.2.1
  by_cases h2 : r.2.1 = 0
  ·rw [show (r.2.1 != 0) = false by simp [h2], cond_false, if_pos rfl, if_neg (fun h : r.2.1 ≠ 0 ∧ look p r.2.1 = none => h.1 h2), fam_size_s k hk W L p t M r.2.1 hp hM (.inl h2), fam_size_v k hk W L p t M r.2.1 hp hM (.inl h2), Option.isSome_some, if_pos rfl]
   exact fam_fits_tail k hk W L (p ++ t) M r r.2.2 _ _ hs
  ·have hkn : v_u24 k W L (p ++ t) M r.2.1 = (mget I r.2.1 M).isSome := by unfold v_u24 f_u24; rfl
   rw [show (r.2.1 != 0) = true by simp [h2], cond_true, if_pos ⟨rfl, rfl⟩, hkn, Bool.true_and]
   cases e : look p r.2.1 with
   | none => rw [(hM r.2.1).none e, if_pos (show r.2.1 ≠ 0 ∧ (none : Option Ro) = none from ⟨h2, rfl⟩)]; rfl
   | some q =>
    obtain ⟨i, e1, e2, e3⟩ := (hM r.2.1).some e
    rw [e1, if_neg (show ¬ (r.2.1 ≠ 0 ∧ some q = none) from fun h => nomatch h.2), Option.isSome_some, Bool.not_true, cond_false, fam_size_s k hk W L p t M r.2.1 hp hM (.inr ⟨q, e⟩), fam_size_v k hk W L p t M r.2.1 hp hM (.inr ⟨q, e⟩), Option.isSome_some, if_pos rfl]
    exact fam_fits_tail k hk W L (p ++ t) M r r.2.2 _ _ hs
theorem fam_fits_v (k : Nat) (hk : 2100 ≤ k) (W L : Int) (hW : 0 ≤ W ∧ W ≤ 12000) (p t : List Ro) (M : List (Int × Int)) (r : Ro) (hp : Wl p) (hM : RegOk M p) : v_u23 k W L (p ++ t) M r = fitsS p W L r := by
 unfold v_u23; rw [fam_fits_s k hk W L hW p t M r hp hM]; rfl

theorem fam_open_23 (k : Nat) (hk : 70000 ≤ k) (l : List Ro) (n i W L : Int) (M : List (Int × Int)) (r : Ro) (hr : Small r.2.2) (p : List Ro) (hp : Wl p) (hpl : p.length ≤ 512) : ∀ (d q m : Nat), q + d = p.length →
  f_u15_23 k (m + d + 1) l l n i p (p.length : Int) (q : Int) W L l M r = if clash (p.drop q) r = true then some (.inl 12) else f_u15_20 k m l l n (i64.wrap (i + 1)) W L l M := by
 intro d
 induction d with
 | zero =>
  intro q m hq
  rw [f_u15_23, decide_eq_false (by omega : ¬ (q : Int) < (p.length : Int)), cond_false, List.drop_of_length_le (by omega), if_neg (by unfold clash; rw [List.any_nil]; decide)]
 | succ d ih =>
  intro q m hq
  have hs : Small (p.getD q T2.dflt).2.2 := hp _ (getD_mem' _ _ _ (by omega))
  have hc : clash (p.drop q) r = ((r.2.1 == (p.getD q T2.dflt).2.1) && ovlS r.2.2 (p.getD q T2.dflt).2.2 || clash (p.drop (q + 1)) r) := by
   unfold clash; rw [drop_cons' p q T2.dflt (by omega), List.any_cons]
  rw [show m + (d + 1) + 1 = (m + d + 1) + 1 from rfl, f_u15_23, decide_eq_true (by omega : (q : Int) < (p.length : Int)), cond_true, if_pos ⟨by omega, by omega⟩, Int.toNat_natCast, wrapS q (by omega), ih (q + 1) m (by omega), hc]
  cases e : (r.2.1 == (p.getD q T2.dflt).2.1)
  ·rw [cond_false, if_pos rfl, Bool.false_and, Bool.false_or]
  ·rw [cond_true, Bool.true_and, fam_overlap_v k hk _ _ hr hs, if_pos ⟨rfl, by rw [fam_overlap_s k hk _ _ hr hs]; rfl⟩, Bool.true_and]
   cases ovlS r.2.2 (p.getD q T2.dflt).2.2
   ·rw [cond_false, Bool.false_or]
   ·rfl
set_option maxRecDepth 20000 in
theorem fam_open_20 (k : Nat) (hk : 70000 ≤ k) (l : List Ro) (W L : Int) (M : List (Int × Int)) (hl : Wl l) (hll : l.length ≤ 512) : ∀ (d i j : Nat), i + d = l.length → d * 514 < j →
  f_u15_20 k j l l (l.length : Int) (i : Int) W L l M = if clashGo (l.take i) (l.drop i) = true then some (.inl 12) else some (.inr (0, W, L, l, M)) := by
 intro d
 induction d with
 | zero =>
  intro i j hi hj
  obtain ⟨j, rfl⟩ : ∃ q, j = q + 1 := ⟨j - 1, by omega⟩
  rw [f_u15_20, decide_eq_false (by omega : ¬ (i : Int) < (l.length : Int)), cond_false, List.drop_of_length_le (by omega), clashGo, if_neg (by decide)]
 | succ d ih =>
  intro i j hi hj
  obtain ⟨j, rfl⟩ : ∃ q, j = (q + (l.take i).length + 1) + 1 := ⟨j - (l.take i).length - 2, by rw [List.length_take]; omega⟩
  rw [List.length_take] at hj
  have hs : Small (l.getD i T2.dflt).2.2 := hl _ (getD_mem' _ _ _ (by omega))
  have h23 := fam_open_23 k hk l (l.length : Int) (i : Int) W L M (l.getD i T2.dflt) hs (l.take i) (fun r hr => hl r (List.mem_of_mem_take hr)) (by rw [List.length_take]; omega) (l.take i).length 0 j (by omega)
  rw [f_u15_20, decide_eq_true (by omega : (i : Int) < (l.length : Int)), cond_true, if_pos ⟨by omega, by omega⟩, if_pos ⟨by omega, by omega, by omega⟩, Int.toNat_natCast, Int.toNat_zero, List.drop_zero, Nat.sub_zero]
  refine h23.trans ?_
  rw [List.drop_zero, wrapS i (by omega), ih (i + 1) j (by omega) (by omega), drop_cons' l i T2.dflt (by omega), clashGo, take_snoc l i T2.dflt (by omega)]
  cases clash (l.take i) (l.getD i T2.dflt)
  ·rw [if_neg (by decide), Bool.false_or]
  ·rfl
theorem fam_open_8 (k : Nat) (hk : 300000 ≤ k) (l : List Ro) (W L : Int) (hW : 0 ≤ W ∧ W ≤ 12000) (hll : l.length ≤ 512) : ∀ (d i j : Nat) (dup : Bool) (M : List (Int × Int)), i + d = l.length → d + 1 + 263168 < j → RegOk M (l.take i) → Wl (l.take i) →
  ∃ M', (errsGo W L (l.take i) (l.drop i) = 0 → RegOk M' l ∧ Wl l) ∧ f_u15_8 k j l dup l (l.length : Int) (i : Int) W L l M =
   if errsGo W L (l.take i) (l.drop i) ≠ 0 then some (.inl (errsGo W L (l.take i) (l.drop i))) else if (dup || dupGo (l.take i) (l.drop i)) = true then some (.inl 6) else if clashGo [] l = true then some (.inl 12) else some (.inr (0, W, L, l, M')) := by
 intro d
 induction d with
 | zero =>
  intro i j dup M hi hj hM hw
  obtain ⟨j, rfl⟩ : ∃ q, j = q + 1 := ⟨j - 1, by omega⟩
  have h20 := fam_open_20 k (by omega) l W L M (by rw [List.take_of_length_le (by omega)] at hw; exact hw) hll l.length 0 j (by omega) (by omega)
  rw [List.take_of_length_le (by omega : l.length ≤ i)] at hM hw
  refine ⟨M, fun _ => ⟨hM, hw⟩, ?_⟩
  rw [f_u15_8, decide_eq_false (by omega : ¬ (i : Int) < (l.length : Int)), cond_false, List.drop_of_length_le (by omega), errsGo, if_neg (fun h => h rfl), dupGo, Bool.or_false]
  cases dup
  ·rw [cond_false, if_neg (by decide)]
   exact h20
  ·rfl
 | succ d ih =>
  intro i j dup M hi hj hM hw
  obtain ⟨j, rfl⟩ : ∃ q, j = q + 1 := ⟨j - 1, by omega⟩
  have hf := fam_fits_s k (by omega) W L hW (l.take i) (l.drop i) M (l.getD i T2.dflt) hw hM
  have hv := fam_fits_v k (by omega) W L hW (l.take i) (l.drop i) M (l.getD i T2.dflt) hw hM
  rw [List.take_append_drop] at hf hv
  have hkn : v_u24 k W L l M (l.getD i T2.dflt).1 = (mget I (l.getD i T2.dflt).1 M).isSome := by unfold v_u24 f_u24; rfl
  have ht := take_snoc l i T2.dflt (by omega)
  by_cases h1 : fitsS (l.take i) W L (l.getD i T2.dflt) = 0
  ·have hw2 : Wl (l.take (i + 1)) := by rw [ht]; exact hw.snoc hW h1
   cases e : look (l.take i) (l.getD i T2.dflt).1 with
   | none =>
    have hM2 : RegOk (mset I (l.getD i T2.dflt).1 (i : Int) M) (l.take (i + 1)) := by
     have := regOk_new hM (l.getD i T2.dflt) e
     rw [ht]
     rw [List.length_take, show min i l.length = i by omega] at this
     exact this
    obtain ⟨M', m1, m2⟩ := ih (i + 1) j dup _ (by omega) (by omega) hM2 hw2
    rw [ht] at m1 m2
    rw [drop_cons' l i T2.dflt (by omega), errsGo, if_neg (fun h => h h1), dupGo, e]
    refine ⟨M', m1, ?_⟩
    rw [f_u15_8, decide_eq_true (by omega : (i : Int) < (l.length : Int)), cond_true, if_pos ⟨by omega, by omega⟩, Int.toNat_natCast, hf, hv, Option.isSome_some, if_pos rfl, h1]
    show (bif v_u24 k W L l M (l.getD i T2.dflt).1 then _ else _) = _
    rw [hkn, (hM _).none e, wrapS i (by omega)]
    exact m2
   | some q =>
    have hM2 : RegOk M (l.take (i + 1)) := by
     have := regOk_old hM (l.getD i T2.dflt) (by rw [e]; rfl)
     rw [ht]
     exact this
    obtain ⟨M', m1, m2⟩ := ih (i + 1) j true _ (by omega) (by omega) hM2 hw2
    rw [ht] at m1 m2
    rw [drop_cons' l i T2.dflt (by omega), errsGo, if_neg (fun h => h h1), dupGo, e]
    refine ⟨M', m1, ?_⟩
    obtain ⟨a, b, _, _⟩ := (hM _).some e
    rw [f_u15_8, decide_eq_true (by omega : (i : Int) < (l.length : Int)), cond_true, if_pos ⟨by omega, by omega⟩, Int.toNat_natCast, hf, hv, Option.isSome_some, if_pos rfl, h1]
    show (bif v_u24 k W L l M (l.getD i T2.dflt).1 then _ else _) = _
    rw [hkn, b, wrapS i (by omega), Option.isSome_some, Option.isSome_some, Bool.true_or, Bool.or_true]
    rw [Bool.true_or] at m2
    exact m2
  ·rw [drop_cons' l i T2.dflt (by omega), errsGo, if_pos h1]
   refine ⟨M, fun h => absurd h h1, ?_⟩
   rw [f_u15_8, decide_eq_true (by omega : (i : Int) < (l.length : Int)), cond_true, if_pos ⟨by omega, by omega⟩, Int.toNat_natCast, hf, hv, Option.isSome_some, if_pos rfl, show (fitsS (l.take i) W L (l.getD i T2.dflt) != 0) = true from bne_iff_ne.2 h1, cond_true, if_pos h1]
theorem fam_open (k : Nat) (hk : 300000 ≤ k) (l : List Ro) (web : Int × Int) : (checkS l web.1 web.2 ≠ 0 → f_u15 k l web = some (.inl (checkS l web.1 web.2))) ∧ (checkS l web.1 web.2 = 0 → ∃ M, RegOk M l ∧ Wl l ∧ f_u15 k l web = some (.inr (0, web.1, web.2, l, M))) := by
 obtain ⟨W, L⟩ := web
 show (checkS l W L ≠ 0 → f_u15 k l (W, L) = some (.inl (checkS l W L))) ∧ (checkS l W L = 0 → ∃ M, RegOk M l ∧ Wl l ∧ f_u15 k l (W, L) = some (.inr (0, W, L, l, M)))
 unfold f_u15 checkS
 show ((if _ then _ else _ : Int) ≠ 0 → (bif decide (W < (1 : Int)) || decide (W > (12000 : Int)) || decide (L < (0 : Int)) || decide (L > (17179869184 : Int)) then some (.inl 1) else bif _ then _ else f_u15_8 k k l false l (l.length : Int) 0 W L l []) = _) ∧ (_ → ∃ M, RegOk M l ∧ Wl l ∧ (bif decide (W < (1 : Int)) || decide (W > (12000 : Int)) || decide (L < (0 : Int)) || decide (L > (17179869184 : Int)) then some (.inl 1) else bif _ then _ else f_u15_8 k k l false l (l.length : Int) 0 W L l []) = _)
 by_cases h1 : W < 1 ∨ W > 12000 ∨ L < 0 ∨ L > 17179869184
 ·rw [if_pos h1, show (decide (W < (1 : Int)) || decide (W > (12000 : Int)) || decide (L < (0 : Int)) || decide (L > (17179869184 : Int))) = true by simp; omega]
  exact ⟨fun _ => rfl, fun h => absurd h (by decide)⟩
 ·rw [if_neg h1, show (decide (W < (1 : Int)) || decide (W > (12000 : Int)) || decide (L < (0 : Int)) || decide (L > (17179869184 : Int))) = false by simp; omega, cond_false]
  by_cases h2 : l.length > 512
  ·rw [if_pos h2, decide_eq_true (by omega : (l.length : Int) > 512)]
   exact ⟨fun _ => rfl, fun h => absurd h (by decide)⟩
  ·rw [if_neg h2, decide_eq_false (by omega : ¬ (l.length : Int) > 512), cond_false]
   obtain ⟨M, m1, m2⟩ := fam_open_8 k hk l W L (by omega) (by omega) l.length 0 k false [] (by omega) (by omega) (by rw [List.take_zero]; exact regOk_nil) (fun r hr => by simp at hr)
   rw [List.take_zero, List.drop_zero, Bool.false_or] at m2
   rw [List.take_zero, List.drop_zero] at m1
   rw [show f_u15_8 k k l false l (l.length : Int) 0 W L l [] = _ from m2]
   by_cases h3 : errsGo W L [] l = 0
   ·rw [if_neg (fun h : errsGo W L [] l ≠ 0 => h h3), if_neg (fun h : errsGo W L [] l ≠ 0 => h h3)]
    have ff : ¬ (false = true) := Bool.false_ne_true
    have tt : true = true := rfl
    cases dupGo [] l
    ·rw [if_neg ff, if_neg ff]
     cases clashGo [] l
     ·rw [if_neg ff, if_neg ff]
      exact ⟨fun h => absurd rfl h, fun _ => ⟨M, (m1 h3).1, (m1 h3).2, rfl⟩⟩
     ·rw [if_pos tt, if_pos tt]
      exact ⟨fun _ => rfl, fun h => absurd h (by decide)⟩
    ·rw [if_pos tt, if_pos tt]
     exact ⟨fun _ => rfl, fun h => absurd h (by decide)⟩
   ·rw [if_pos h3, if_pos h3]
    exact ⟨fun _ => rfl, fun h => absurd h h3⟩
end Go.AM
namespace Go.AM
open Go Go.Proofs Go.IntKind
set_option linter.unusedVariables false
noncomputable section
abbrev R_u94 : Type := Int
def res_u94 (r : R_u94) : AV := .r (.v (.int .i64 r))
def bo_u94 (l_ : List (T2).T) (i_ : Int) (width_ : Int) (length_ : Int) (r : R_u94) : List (Nat × Blk) := []
def args_u94 (l_ : List (T2).T) (i_ : Int) (width_ : Int) (length_ : Int) : List AV := [.r (.ro T2 l_), .r (.v (.int .i64 i_)), .r (.v (.int .i64 width_)), .r (.v (.int .i64 length_))]
def bin_u94 (l_ : List (T2).T) (i_ : Int) (width_ : Int) (length_ : Int) : List Blk := []
def st_u94_21 (y0 : Int) (y1 : Int) (y2 : T1.T) : St := ⟨mkS 109 [(3, .r (.v (.int .i64 y0))), (11, .ptr 1000000 0 0), (13, .r (.v (.int .i64 y1)))], [(1000000, 0, .var 41 (rvs (enc T1 y2)))]⟩
def f_u94_21 (k : Nat) : Nat → Int → Int → T1.T → Option R_u94
 | 0, _, _, _ => none
 | j + 1, y0, y1, y2 =>
 bif (decide (y1 < (↑ (List.length y2.2.2.2) : Int))) then
 if (0 ≤ y1) ∧ (y1 < (↑ (List.length y2.2.2.2) : Int)) ∧ ((f_u90 k (List.getD y2.2.2.2 y1.toNat T0.dflt)).isSome = true) then
 bif (decide ((v_u90 k (List.getD y2.2.2.2 y1.toNat T0.dflt)).2 ≥ y0)) then
 some 21
 else
 f_u94_21 k j y0 ((i64.wrap (y1 + 1))) y2
 else none
 else
 some 0
def f_u94 (k : Nat) (l_ : List (T2).T) (i_ : Int) (width_ : Int) (length_ : Int) : Option R_u94 :=
 if ((0 : Int) ≤ i_) ∧ (i_ < (↑l_.length : Int)) then
 bif (decide ((l_.getD i_.toNat T2.dflt).1 < (1 : Int)) || decide ((l_.getD i_.toNat T2.dflt).1 > (1000000 : Int))) then
 some 1
 else
 bif ((l_.getD i_.toNat T2.dflt).2.1 != (0 : Int)) then
 if ((f_u82 k l_ i_ (l_.getD i_.toNat T2.dflt).2.1).isSome = true) then
 bif (decide (v_u82 k l_ i_ (l_.getD i_.toNat T2.dflt).2.1 < (0 : Int))) then
 some 7
 else
 if ((0 : Int) ≤ v_u82 k l_ i_ (l_.getD i_.toNat T2.dflt).2.1) ∧ (v_u82 k l_ i_ (l_.getD i_.toNat T2.dflt).2.1 < (↑l_.length : Int)) then
 if ((0 : Int) ≤ v_u82 k l_ i_ (l_.getD i_.toNat T2.dflt).2.1) ∧ (v_u82 k l_ i_ (l_.getD i_.toNat T2.dflt).2.1 < (↑l_.length : Int)) ∧ ((f_u85 k (l_.getD (Int.toNat (v_u82 k l_ i_ (l_.getD i_.toNat T2.dflt).2.1)) T2.dflt).2.2.2.2.2).isSome = true) then
 bif (decide ((l_.getD i_.toNat T2.dflt).2.2.1 < (0 : Int)) || decide ((l_.getD i_.toNat T2.dflt).2.2.2.1 < (1 : Int)) || decide ((l_.getD i_.toNat T2.dflt).2.2.1 > (l_.getD (Int.toNat (v_u82 k l_ i_ (l_.getD i_.toNat T2.dflt).2.1)) T2.dflt).2.2.2.1) || decide ((l_.getD i_.toNat T2.dflt).2.2.2.1 > i64.wrap ((l_.getD (Int.toNat (v_u82 k l_ i_ (l_.getD i_.toNat T2.dflt).2.1)) T2.dflt).2.2.2.1 - (l_.getD i_.toNat T2.dflt).2.2.1))) then
 some 20
 else
 if ((f_u68 k (l_.getD i_.toNat T2.dflt).2.2.2.2.2).isSome = true) then
 bif (v_u68 k (l_.getD i_.toNat T2.dflt).2.2.2.2.2 != (0 : Int)) then
 some (v_u68 k (l_.getD i_.toNat T2.dflt).2.2.2.2.2)
 else
 bif ((↑ (List.length (l_.getD i_.toNat T2.dflt).2.2.2.2.2) : Int) == (0 : Int)) then
 some 10
 else
 if ((f_u71 k (l_.getD i_.toNat T2.dflt).2.2.2.2.2).isSome = true) then
 bif (!v_u71 k (l_.getD i_.toNat T2.dflt).2.2.2.2.2) then
 some 12
 else
 f_u94_21 k k ((v_u85 k (l_.getD (Int.toNat (v_u82 k l_ i_ (l_.getD i_.toNat T2.dflt).2.1)) T2.dflt).2.2.2.2.2)) 0 ((l_.getD i_.toNat T2.dflt).2.2)
 else none
 else none
 else none
 else none
 else none
 else
 bif (decide ((l_.getD i_.toNat T2.dflt).2.2.1 < (0 : Int)) || decide ((l_.getD i_.toNat T2.dflt).2.2.2.1 < (1 : Int)) || decide ((l_.getD i_.toNat T2.dflt).2.2.1 > width_) || decide ((l_.getD i_.toNat T2.dflt).2.2.2.1 > i64.wrap (width_ - (l_.getD i_.toNat T2.dflt).2.2.1))) then
 some 20
 else
 if ((f_u68 k (l_.getD i_.toNat T2.dflt).2.2.2.2.2).isSome = true) then
 bif (v_u68 k (l_.getD i_.toNat T2.dflt).2.2.2.2.2 != (0 : Int)) then
 some (v_u68 k (l_.getD i_.toNat T2.dflt).2.2.2.2.2)
 else
 bif ((↑ (List.length (l_.getD i_.toNat T2.dflt).2.2.2.2.2) : Int) == (0 : Int)) then
 some 10
 else
 if ((f_u71 k (l_.getD i_.toNat T2.dflt).2.2.2.2.2).isSome = true) then
 bif (!v_u71 k (l_.getD i_.toNat T2.dflt).2.2.2.2.2) then
 some 12
 else
 f_u94_21 k k length_ 0 ((l_.getD i_.toNat T2.dflt).2.2)
 else none
 else none
 else none
def v_u94 (k : Nat) (l_ : List (T2).T) (i_ : Int) (width_ : Int) (length_ : Int) : R_u94 := (f_u94 k l_ i_ width_ length_).getD 0
def K_u94 (k : Nat) : Calld := ⟨fun g xs => match g with
 | 35 => match xs with
  | [_, _, _] => some [false, false, false]
  | _ => none
 | 43 => match xs with
  | [_] => some [false]
  | _ => none
 | 54 => match xs with
  | [_] => some [false]
  | _ => none
 | 61 => match xs with
  | [_] => some [false]
  | _ => none
 | 62 => match xs with
  | [_] => some [false]
  | _ => none
 | _ => none, fun g xs bs => match g with
 | 35 => match xs, bs with
  | [.r (.ro tl__ ql_), .r (.v (.int .i64 n_)), .r (.v (.int .i64 id_))], [] => (castL tl__ T2 ql_).bind fun l_ => some (.one (res_u82 (v_u82 k l_ n_ id_), bo_u82 l_ n_ id_ (v_u82 k l_ n_ id_)))
  | _, _ => none
 | 43 => match xs, bs with
  | [.r (.ro tm__ qm_)], [] => (castL tm__ T0 qm_).bind fun m_ => some (.one (res_u85 (v_u85 k m_), bo_u85 m_ (v_u85 k m_)))
  | _, _ => none
 | 54 => match xs, bs with
  | [.r (.ro tm__ qm_)], [] => (castL tm__ T0 qm_).bind fun m_ => some (.one (res_u68 (v_u68 k m_), bo_u68 m_ (v_u68 k m_)))
  | _, _ => none
 | 61 => match xs, bs with
  | [.r (.ro tm__ qm_)], [] => (castL tm__ T0 qm_).bind fun m_ => some (.one (res_u71 (v_u71 k m_), bo_u71 m_ (v_u71 k m_)))
  | _, _ => none
 | 62 => match xs, bs with
  | [.agg qr_], [] => (decS [] T0 qr_).bind fun r_ => some (.one (res_u90 (v_u90 k r_), bo_u90 r_ (v_u90 k r_)))
  | _, _ => none
 | _ => none⟩
theorem ev_u94 (k : Nat) (l_ : List (T2).T) (i_ : Int) (width_ : Int) (length_ : Int) : ∀ j, (∀ (y0 : Int) (y1 : Int) (y2 : T1.T) (r : R_u94), f_u94_21 k j y0 y1 y2 = some r → Ev Tryz.prog Tryz.f40 0 (placeAt Tryz.f40 21) (st_u94_21 y0 y1 y2) (res_u94 r) (bo_u94 l_ i_ width_ length_ r))
 | 0 => by
  intros; rename_i h; simp [f_u94_21] at h
 | j + 1 => by
  have ih := ev_u94 k l_ i_ width_ length_ j
  ·intro y0 y1 y2 r h
   rw [f_u94_21] at h
   refine Ev.tree hm (R := Rt) (K := (K_u94 k)) (l := []) (C := [(21, [.autoB [3, 11, 13] false []])]) (E := [.autoB [8] true []]) (n := 1000) (T := .test ((decide (y1 < (↑ (List.length y2.2.2.2) : Int)))) (.need [0 ≤ y1, y1 < (↑ (List.length y2.2.2.2) : Int), CC Tryz.prog 62 (args_u90 (List.getD y2.2.2.2 y1.toNat T0.dflt)) (bin_u90 (List.getD y2.2.2.2 y1.toNat T0.dflt)) (res_u90 (v_u90 k (List.getD y2.2.2.2 y1.toNat T0.dflt))) (bo_u90 (List.getD y2.2.2.2 y1.toNat T0.dflt) (v_u90 k (List.getD y2.2.2.2 y1.toNat T0.dflt)))] (.test ((decide ((v_u90 k (List.getD y2.2.2.2 y1.toNat T0.dflt)).2 ≥ y0))) (.leaf (res_u94 21) (bo_u94 l_ i_ width_ length_ 21)) (.cut 21 (placeAt Tryz.f40 21) (st_u94_21 y0 ((i64.wrap (y1 + 1))) y2)))) (.leaf (res_u94 0) (bo_u94 l_ i_ width_ length_ 0))) (by kernel_rfl) ?_
   refine ⟨fun c => ?_, fun c => ?_⟩
   ·rw [cond_t (show ((decide (y1 < (↑ (List.length y2.2.2.2) : Int)))) = true from c)] at h
    by_cases q : (0 ≤ y1) ∧ (y1 < (↑ (List.length y2.2.2.2) : Int)) ∧ ((f_u90 k (List.getD y2.2.2.2 y1.toNat T0.dflt)).isSome = true)
    ·rw [if_pos q] at h
     refine ⟨(conjC q.1 (conjC q.2.1 (conjC (cc_u90 k (List.getD y2.2.2.2 y1.toNat T0.dflt) q.2.2) conj0))), ?_⟩
     refine ⟨fun c => ?_, fun c => ?_⟩
     ·rw [cond_t (show ((decide ((v_u90 k (List.getD y2.2.2.2 y1.toNat T0.dflt)).2 ≥ y0))) = true from c)] at h
      cases h; exact ⟨rfl, rfl⟩
     ·rw [cond_f (show ((decide ((v_u90 k (List.getD y2.2.2.2 y1.toNat T0.dflt)).2 ≥ y0))) = false from c)] at h
      exact ih y0 ((i64.wrap (y1 + 1))) y2 _ h
    ·rw [if_neg q] at h; cases h
   ·rw [cond_f (show ((decide (y1 < (↑ (List.length y2.2.2.2) : Int)))) = false from c)] at h
    cases h; exact ⟨rfl, rfl⟩
theorem of_u94 (k : Nat) (l_ : List (T2).T) (i_ : Int) (width_ : Int) (length_ : Int) (r : R_u94) (h : f_u94 k l_ i_ width_ length_ = some r) : CC Tryz.prog 40 (args_u94 l_ i_ width_ length_) (bin_u94 l_ i_ width_ length_) (res_u94 r) (bo_u94 l_ i_ width_ length_ r) := by
 refine CC.of (fn := Tryz.f40) (by kernel_rfl) (by kernel_rfl) (by kernel_rfl) (by kernel_rfl) ?_
 unfold f_u94 at h
 refine Ev.tree hm (R := Rt) (K := (K_u94 k)) (l := []) (C := [(21, [.autoB [3, 11, 13] false []])]) (E := [.autoB [8] true []]) (n := 1000) (T := .need [(0 : Int) ≤ i_, i_ < (↑l_.length : Int)] (.test ((decide ((l_.getD i_.toNat T2.dflt).1 < (1 : Int)) || decide ((l_.getD i_.toNat T2.dflt).1 > (1000000 : Int)))) (.leaf (res_u94 1) (bo_u94 l_ i_ width_ length_ 1)) (.test (((l_.getD i_.toNat T2.dflt).2.1 != (0 : Int))) (.need [CC Tryz.prog 35 (args_u82 l_ i_ (l_.getD i_.toNat T2.dflt).2.1) (bin_u82 l_ i_ (l_.getD i_.toNat T2.dflt).2.1) (res_u82 (v_u82 k l_ i_ (l_.getD i_.toNat T2.dflt).2.1)) (bo_u82 l_ i_ (l_.getD i_.toNat T2.dflt).2.1 (v_u82 k l_ i_ (l_.getD i_.toNat T2.dflt).2.1))] (.test ((decide (v_u82 k l_ i_ (l_.getD i_.toNat T2.dflt).2.1 < (0 : Int)))) (.leaf (res_u94 7) (bo_u94 l_ i_ width_ length_ 7)) (.need [(0 : Int) ≤ v_u82 k l_ i_ (l_.getD i_.toNat T2.dflt).2.1, v_u82 k l_ i_ (l_.getD i_.toNat T2.dflt).2.1 < (↑l_.length : Int)] (.need [(0 : Int) ≤ v_u82 k l_ i_ (l_.getD i_.toNat T2.dflt).2.1, v_u82 k l_ i_ (l_.getD i_.toNat T2.dflt).2.1 < (↑l_.length : Int), CC Tryz.prog 43 (args_u85 (l_.getD (Int.toNat (v_u82 k l_ i_ (l_.getD i_.toNat T2.dflt).2.1)) T2.dflt).2.2.2.2.2) (bin_u85 (l_.getD (Int.toNat (v_u82 k l_ i_ (l_.getD i_.toNat T2.dflt).2.1)) T2.dflt).2.2.2.2.2) (res_u85 (v_u85 k (l_.getD (Int.toNat (v_u82 k l_ i_ (l_.getD i_.toNat T2.dflt).2.1)) T2.dflt).2.2.2.2.2)) (bo_u85 (l_.getD (Int.toNat (v_u82 k l_ i_ (l_.getD i_.toNat T2.dflt).2.1)) T2.dflt).2.2.2.2.2 (v_u85 k (l_.getD (Int.toNat (v_u82 k l_ i_ (l_.getD i_.toNat T2.dflt).2.1)) T2.dflt).2.2.2.2.2))] (.test ((decide ((l_.getD i_.toNat T2.dflt).2.2.1 < (0 : Int)) || decide ((l_.getD i_.toNat T2.dflt).2.2.2.1 < (1 : Int)) || decide ((l_.getD i_.toNat T2.dflt).2.2.1 > (l_.getD (Int.toNat (v_u82 k l_ i_ (l_.getD i_.toNat T2.dflt).2.1)) T2.dflt).2.2.2.1) || decide ((l_.getD i_.toNat T2.dflt).2.2.2.1 > i64.wrap ((l_.getD (Int.toNat (v_u82 k l_ i_ (l_.getD i_.toNat T2.dflt).2.1)) T2.dflt).2.2.2.1 - (l_.getD i_.toNat T2.dflt).2.2.1)))) (.leaf (res_u94 20) (bo_u94 l_ i_ width_ length_ 20)) (.need [CC Tryz.prog 54 (args_u68 (l_.getD i_.toNat T2.dflt).2.2.2.2.2) (bin_u68 (l_.getD i_.toNat T2.dflt).2.2.2.2.2) (res_u68 (v_u68 k (l_.getD i_.toNat T2.dflt).2.2.2.2.2)) (bo_u68 (l_.getD i_.toNat T2.dflt).2.2.2.2.2 (v_u68 k (l_.getD i_.toNat T2.dflt).2.2.2.2.2))] (.test ((v_u68 k (l_.getD i_.toNat T2.dflt).2.2.2.2.2 != (0 : Int))) (.leaf (res_u94 (v_u68 k (l_.getD i_.toNat T2.dflt).2.2.2.2.2)) (bo_u94 l_ i_ width_ length_ (v_u68 k (l_.getD i_.toNat T2.dflt).2.2.2.2.2))) (.test (((↑ (List.length (l_.getD i_.toNat T2.dflt).2.2.2.2.2) : Int) == (0 : Int))) (.leaf (res_u94 10) (bo_u94 l_ i_ width_ length_ 10)) (.need [CC Tryz.prog 61 (args_u71 (l_.getD i_.toNat T2.dflt).2.2.2.2.2) (bin_u71 (l_.getD i_.toNat T2.dflt).2.2.2.2.2) (res_u71 (v_u71 k (l_.getD i_.toNat T2.dflt).2.2.2.2.2)) (bo_u71 (l_.getD i_.toNat T2.dflt).2.2.2.2.2 (v_u71 k (l_.getD i_.toNat T2.dflt).2.2.2.2.2))] (.test ((!v_u71 k (l_.getD i_.toNat T2.dflt).2.2.2.2.2)) (.leaf (res_u94 12) (bo_u94 l_ i_ width_ length_ 12)) (.cut 21 (placeAt Tryz.f40 21) (st_u94_21 ((v_u85 k (l_.getD (Int.toNat (v_u82 k l_ i_ (l_.getD i_.toNat T2.dflt).2.1)) T2.dflt).2.2.2.2.2)) 0 ((l_.getD i_.toNat T2.dflt).2.2))))))))))))) (.test ((decide ((l_.getD i_.toNat T2.dflt).2.2.1 < (0 : Int)) || decide ((l_.getD i_.toNat T2.dflt).2.2.2.1 < (1 : Int)) || decide ((l_.getD i_.toNat T2.dflt).2.2.1 > width_) || decide ((l_.getD i_.toNat T2.dflt).2.2.2.1 > i64.wrap (width_ - (l_.getD i_.toNat T2.dflt).2.2.1)))) (.leaf (res_u94 20) (bo_u94 l_ i_ width_ length_ 20)) (.need [CC Tryz.prog 54 (args_u68 (l_.getD i_.toNat T2.dflt).2.2.2.2.2) (bin_u68 (l_.getD i_.toNat T2.dflt).2.2.2.2.2) (res_u68 (v_u68 k (l_.getD i_.toNat T2.dflt).2.2.2.2.2)) (bo_u68 (l_.getD i_.toNat T2.dflt).2.2.2.2.2 (v_u68 k (l_.getD i_.toNat T2.dflt).2.2.2.2.2))] (.test ((v_u68 k (l_.getD i_.toNat T2.dflt).2.2.2.2.2 != (0 : Int))) (.leaf (res_u94 (v_u68 k (l_.getD i_.toNat T2.dflt).2.2.2.2.2)) (bo_u94 l_ i_ width_ length_ (v_u68 k (l_.getD i_.toNat T2.dflt).2.2.2.2.2))) (.test (((↑ (List.length (l_.getD i_.toNat T2.dflt).2.2.2.2.2) : Int) == (0 : Int))) (.leaf (res_u94 10) (bo_u94 l_ i_ width_ length_ 10)) (.need [CC Tryz.prog 61 (args_u71 (l_.getD i_.toNat T2.dflt).2.2.2.2.2) (bin_u71 (l_.getD i_.toNat T2.dflt).2.2.2.2.2) (res_u71 (v_u71 k (l_.getD i_.toNat T2.dflt).2.2.2.2.2)) (bo_u71 (l_.getD i_.toNat T2.dflt).2.2.2.2.2 (v_u71 k (l_.getD i_.toNat T2.dflt).2.2.2.2.2))] (.test ((!v_u71 k (l_.getD i_.toNat T2.dflt).2.2.2.2.2)) (.leaf (res_u94 12) (bo_u94 l_ i_ width_ length_ 12)) (.cut 21 (placeAt Tryz.f40 21) (st_u94_21 length_ 0 ((l_.getD i_.toNat T2.dflt).2.2)))))))))))) (by kernel_rfl) ?_
 by_cases q : ((0 : Int) ≤ i_) ∧ (i_ < (↑l_.length : Int))
 ·rw [if_pos q] at h
  refine ⟨(conjC q.1 (conjC q.2 conj0)), ?_⟩
  refine ⟨fun c => ?_, fun c => ?_⟩
  ·rw [cond_t (show ((decide ((l_.getD i_.toNat T2.dflt).1 < (1 : Int)) || decide ((l_.getD i_.toNat T2.dflt).1 > (1000000 : Int)))) = true from c)] at h
   cases h; exact ⟨rfl, rfl⟩
  ·rw [cond_f (show ((decide ((l_.getD i_.toNat T2.dflt).1 < (1 : Int)) || decide ((l_.getD i_.toNat T2.dflt).1 > (1000000 : Int)))) = false from c)] at h
   refine ⟨fun c => ?_, fun c => ?_⟩
   ·rw [cond_t (show (((l_.getD i_.toNat T2.dflt).2.1 != (0 : Int))) = true from c)] at h
    by_cases q : ((f_u82 k l_ i_ (l_.getD i_.toNat T2.dflt).2.1).isSome = true)
    ·rw [if_pos q] at h
     refine ⟨(conjC (cc_u82 k l_ i_ (l_.getD i_.toNat T2.dflt).2.1 q) conj0), ?_⟩
     refine ⟨fun c => ?_, fun c => ?_⟩
     ·rw [cond_t (show ((decide (v_u82 k l_ i_ (l_.getD i_.toNat T2.dflt).2.1 < (0 : Int)))) = true from c)] at h
      cases h; exact ⟨rfl, rfl⟩
     ·rw [cond_f (show ((decide (v_u82 k l_ i_ (l_.getD i_.toNat T2.dflt).2.1 < (0 : Int)))) = false from c)] at h
      by_cases q : ((0 : Int) ≤ v_u82 k l_ i_ (l_.getD i_.toNat T2.dflt).2.1) ∧ (v_u82 k l_ i_ (l_.getD i_.toNat T2.dflt).2.1 < (↑l_.length : Int))
      ·rw [if_pos q] at h
       refine ⟨(conjC q.1 (conjC q.2 conj0)), ?_⟩
       by_cases q : ((0 : Int) ≤ v_u82 k l_ i_ (l_.getD i_.toNat T2.dflt).2.1) ∧ (v_u82 k l_ i_ (l_.getD i_.toNat T2.dflt).2.1 < (↑l_.length : Int)) ∧ ((f_u85 k (l_.getD (Int.toNat (v_u82 k l_ i_ (l_.getD i_.toNat T2.dflt).2.1)) T2.dflt).2.2.2.2.2).isSome = true)
       ·rw [if_pos q] at h
        refine ⟨(conjC q.1 (conjC q.2.1 (conjC (cc_u85 k (l_.getD (Int.toNat (v_u82 k l_ i_ (l_.getD i_.toNat T2.dflt).2.1)) T2.dflt).2.2.2.2.2 q.2.2) conj0))), ?_⟩
        refine ⟨fun c => ?_, fun c => ?_⟩
        ·rw [cond_t (show ((decide ((l_.getD i_.toNat T2.dflt).2.2.1 < (0 : Int)) || decide ((l_.getD i_.toNat T2.dflt).2.2.2.1 < (1 : Int)) || decide ((l_.getD i_.toNat T2.dflt).2.2.1 > (l_.getD (Int.toNat (v_u82 k l_ i_ (l_.getD i_.toNat T2.dflt).2.1)) T2.dflt).2.2.2.1) || decide ((l_.getD i_.toNat T2.dflt).2.2.2.1 > i64.wrap ((l_.getD (Int.toNat (v_u82 k l_ i_ (l_.getD i_.toNat T2.dflt).2.1)) T2.dflt).2.2.2.1 - (l_.getD i_.toNat T2.dflt).2.2.1)))) = true from c)] at h
         cases h; exact ⟨rfl, rfl⟩
        ·rw [cond_f (show ((decide ((l_.getD i_.toNat T2.dflt).2.2.1 < (0 : Int)) || decide ((l_.getD i_.toNat T2.dflt).2.2.2.1 < (1 : Int)) || decide ((l_.getD i_.toNat T2.dflt).2.2.1 > (l_.getD (Int.toNat (v_u82 k l_ i_ (l_.getD i_.toNat T2.dflt).2.1)) T2.dflt).2.2.2.1) || decide ((l_.getD i_.toNat T2.dflt).2.2.2.1 > i64.wrap ((l_.getD (Int.toNat (v_u82 k l_ i_ (l_.getD i_.toNat T2.dflt).2.1)) T2.dflt).2.2.2.1 - (l_.getD i_.toNat T2.dflt).2.2.1)))) = false from c)] at h
         by_cases q : ((f_u68 k (l_.getD i_.toNat T2.dflt).2.2.2.2.2).isSome = true)
         ·rw [if_pos q] at h
          refine ⟨(conjC (cc_u68 k (l_.getD i_.toNat T2.dflt).2.2.2.2.2 q) conj0), ?_⟩
          refine ⟨fun c => ?_, fun c => ?_⟩
          ·rw [cond_t (show ((v_u68 k (l_.getD i_.toNat T2.dflt).2.2.2.2.2 != (0 : Int))) = true from c)] at h
           cases h; exact ⟨rfl, rfl⟩
          ·rw [cond_f (show ((v_u68 k (l_.getD i_.toNat T2.dflt).2.2.2.2.2 != (0 : Int))) = false from c)] at h
           refine ⟨fun c => ?_, fun c => ?_⟩
           ·rw [cond_t (show (((↑ (List.length (l_.getD i_.toNat T2.dflt).2.2.2.2.2) : Int) == (0 : Int))) = true from c)] at h
            cases h; exact ⟨rfl, rfl⟩
           ·rw [cond_f (show (((↑ (List.length (l_.getD i_.toNat T2.dflt).2.2.2.2.2) : Int) == (0 : Int))) = false from c)] at h
            by_cases q : ((f_u71 k (l_.getD i_.toNat T2.dflt).2.2.2.2.2).isSome = true)
            ·rw [if_pos q] at h
             refine ⟨(conjC (cc_u71 k (l_.getD i_.toNat T2.dflt).2.2.2.2.2 q) conj0), ?_⟩
             refine ⟨fun c => ?_, fun c => ?_⟩
             ·rw [cond_t (show ((!v_u71 k (l_.getD i_.toNat T2.dflt).2.2.2.2.2)) = true from c)] at h
              cases h; exact ⟨rfl, rfl⟩
             ·rw [cond_f (show ((!v_u71 k (l_.getD i_.toNat T2.dflt).2.2.2.2.2)) = false from c)] at h
              exact (ev_u94 k l_ i_ width_ length_ k) ((v_u85 k (l_.getD (Int.toNat (v_u82 k l_ i_ (l_.getD i_.toNat T2.dflt).2.1)) T2.dflt).2.2.2.2.2)) 0 ((l_.getD i_.toNat T2.dflt).2.2) _ h
            ·rw [if_neg q] at h; cases h
         ·rw [if_neg q] at h; cases h
       ·rw [if_neg q] at h; cases h
      ·rw [if_neg q] at h; cases h
    ·rw [if_neg q] at h; cases h
   ·rw [cond_f (show (((l_.getD i_.toNat T2.dflt).2.1 != (0 : Int))) = false from c)] at h
    refine ⟨fun c => ?_, fun c => ?_⟩
    ·rw [cond_t (show ((decide ((l_.getD i_.toNat T2.dflt).2.2.1 < (0 : Int)) || decide ((l_.getD i_.toNat T2.dflt).2.2.2.1 < (1 : Int)) || decide ((l_.getD i_.toNat T2.dflt).2.2.1 > width_) || decide ((l_.getD i_.toNat T2.dflt).2.2.2.1 > i64.wrap (width_ - (l_.getD i_.toNat T2.dflt).2.2.1)))) = true from c)] at h
     cases h; exact ⟨rfl, rfl⟩
    ·rw [cond_f (show ((decide ((l_.getD i_.toNat T2.dflt).2.2.1 < (0 : Int)) || decide ((l_.getD i_.toNat T2.dflt).2.2.2.1 < (1 : Int)) || decide ((l_.getD i_.toNat T2.dflt).2.2.1 > width_) || decide ((l_.getD i_.toNat T2.dflt).2.2.2.1 > i64.wrap (width_ - (l_.getD i_.toNat T2.dflt).2.2.1)))) = false from c)] at h
     by_cases q : ((f_u68 k (l_.getD i_.toNat T2.dflt).2.2.2.2.2).isSome = true)
     ·rw [if_pos q] at h
      refine ⟨(conjC (cc_u68 k (l_.getD i_.toNat T2.dflt).2.2.2.2.2 q) conj0), ?_⟩
      refine ⟨fun c => ?_, fun c => ?_⟩
      ·rw [cond_t (show ((v_u68 k (l_.getD i_.toNat T2.dflt).2.2.2.2.2 != (0 : Int))) = true from c)] at h
       cases h; exact ⟨rfl, rfl⟩
      ·rw [cond_f (show ((v_u68 k (l_.getD i_.toNat T2.dflt).2.2.2.2.2 != (0 : Int))) = false from c)] at h
       refine ⟨fun c => ?_, fun c => ?_⟩
       ·rw [cond_t (show (((↑ (List.length (l_.getD i_.toNat T2.dflt).2.2.2.2.2) : Int) == (0 : Int))) = true from c)] at h
        cases h; exact ⟨rfl, rfl⟩
       ·rw [cond_f (show (((↑ (List.length (l_.getD i_.toNat T2.dflt).2.2.2.2.2) : Int) == (0 : Int))) = false from c)] at h
        by_cases q : ((f_u71 k (l_.getD i_.toNat T2.dflt).2.2.2.2.2).isSome = true)
        ·rw [if_pos q] at h
         refine ⟨(conjC (cc_u71 k (l_.getD i_.toNat T2.dflt).2.2.2.2.2 q) conj0), ?_⟩
         refine ⟨fun c => ?_, fun c => ?_⟩
         ·rw [cond_t (show ((!v_u71 k (l_.getD i_.toNat T2.dflt).2.2.2.2.2)) = true from c)] at h
          cases h; exact ⟨rfl, rfl⟩
         ·rw [cond_f (show ((!v_u71 k (l_.getD i_.toNat T2.dflt).2.2.2.2.2)) = false from c)] at h
          exact (ev_u94 k l_ i_ width_ length_ k) length_ 0 ((l_.getD i_.toNat T2.dflt).2.2) _ h
        ·rw [if_neg q] at h; cases h
     ·rw [if_neg q] at h; cases h
 ·rw [if_neg q] at h; cases h
theorem cc_u94 (k : Nat) (l_ : List (T2).T) (i_ : Int) (width_ : Int) (length_ : Int) (h : (f_u94 k l_ i_ width_ length_).isSome = true) : CC Tryz.prog 40 (args_u94 l_ i_ width_ length_) (bin_u94 l_ i_ width_ length_) (res_u94 (v_u94 k l_ i_ width_ length_)) (bo_u94 l_ i_ width_ length_ (v_u94 k l_ i_ width_ length_)) := by
 cases e : f_u94 k l_ i_ width_ length_ with
 | none => rw [e] at h; cases h
 | some r => rw [show v_u94 k l_ i_ width_ length_ = r by simp [v_u94, e]]; exact of_u94 k l_ i_ width_ length_ r e

end
end Go.AM
namespace Go.AM
open Go Go.Proofs Go.IntKind
set_option linter.unusedVariables false
noncomputable section
abbrev R_u79 : Type := Int
def res_u79 (r : R_u79) : AV := .r (.v (.int .i64 r))
def bo_u79 (l_ : List (T2).T) (width_ : Int) (length_ : Int) (r : R_u79) : List (Nat × Blk) := []
def args_u79 (l_ : List (T2).T) (width_ : Int) (length_ : Int) : List AV := [.r (.ro T2 l_), .r (.v (.int .i64 width_)), .r (.v (.int .i64 length_))]
def bin_u79 (l_ : List (T2).T) (width_ : Int) (length_ : Int) : List Blk := []
def st_u79_6 (y0 : List (T2).T) (y1 : Int) (y2 : Int) (y3 : Int) : St := ⟨mkS 119 [(0, .r (.ro T2 y0)), (1, .r (.v (.int .i64 y1))), (2, .r (.v (.int .i64 y2))), (7, .r (.v (.int .i64 y3)))], []⟩
def st_u79_12 (y0 : List (T2).T) (y1 : Int) : St := ⟨mkS 119 [(0, .r (.ro T2 y0)), (9, .r (.v (.int .i64 y1)))], []⟩
def st_u79_17 (y0 : List (T2).T) (y1 : Int) : St := ⟨mkS 119 [(0, .r (.ro T2 y0)), (10, .r (.v (.int .i64 y1)))], []⟩
def st_u79_20 (y0 : List (T2).T) (y1 : Int) (y2 : Int) : St := ⟨mkS 119 [(0, .r (.ro T2 y0)), (10, .r (.v (.int .i64 y1))), (11, .r (.v (.int .i64 y2)))], []⟩
mutual
def f_u79_6 (k : Nat) : Nat → List (T2).T → Int → Int → Int → Option R_u79
 | 0, _, _, _, _ => none
 | j + 1, y0, y1, y2, y3 =>
 bif (decide (y3 < (↑y0.length : Int))) then
 if ((f_u94 k y0 y3 y1 y2).isSome = true) then
 bif (v_u94 k y0 y3 y1 y2 != (0 : Int)) then
 some (v_u94 k y0 y3 y1 y2)
 else
 f_u79_6 k j y0 y1 y2 ((i64.wrap (y3 + 1)))
 else none
 else
 f_u79_12 k j y0 0
def f_u79_12 (k : Nat) : Nat → List (T2).T → Int → Option R_u79
 | 0, _, _ => none
 | j + 1, y0, y1 =>
 bif (decide (y1 < (↑y0.length : Int))) then
 if (0 ≤ y1) ∧ (y1 < (↑y0.length : Int)) ∧ ((f_u82 k y0 y1 (y0.getD y1.toNat T2.dflt).1).isSome = true) then
 bif (decide (v_u82 k y0 y1 (y0.getD y1.toNat T2.dflt).1 ≥ (0 : Int))) then
 some 6
 else
 f_u79_12 k j y0 ((i64.wrap (y1 + 1)))
 else none
 else
 f_u79_17 k j y0 0
def f_u79_17 (k : Nat) : Nat → List (T2).T → Int → Option R_u79
 | 0, _, _ => none
 | j + 1, y0, y1 =>
 bif (decide (y1 < (↑y0.length : Int))) then
 f_u79_20 k j y0 y1 0
 else
 some 0
def f_u79_20 (k : Nat) : Nat → List (T2).T → Int → Int → Option R_u79
 | 0, _, _, _ => none
 | j + 1, y0, y1, y2 =>
 bif (decide (y2 < y1)) then
 if (0 ≤ y1) ∧ (y1 < (↑y0.length : Int)) then
 if (0 ≤ y2) ∧ (y2 < (↑y0.length : Int)) then
 bif ((y0.getD y1.toNat T2.dflt).2.1 == (y0.getD y2.toNat T2.dflt).2.1 && decide ((y0.getD y1.toNat T2.dflt).2.2.1 < i64.wrap ((y0.getD y2.toNat T2.dflt).2.2.1 + (y0.getD y2.toNat T2.dflt).2.2.2.1)) && decide ((y0.getD y2.toNat T2.dflt).2.2.1 < i64.wrap ((y0.getD y1.toNat T2.dflt).2.2.1 + (y0.getD y1.toNat T2.dflt).2.2.2.1))) then
 if (0 ≤ y1) ∧ (y1 < (↑y0.length : Int)) ∧ (0 ≤ y2) ∧ (y2 < (↑y0.length : Int)) ∧ (((y0.getD y1.toNat T2.dflt).2.1 == (y0.getD y2.toNat T2.dflt).2.1 && decide ((y0.getD y1.toNat T2.dflt).2.2.1 < i64.wrap ((y0.getD y2.toNat T2.dflt).2.2.1 + (y0.getD y2.toNat T2.dflt).2.2.2.1)) && decide ((y0.getD y2.toNat T2.dflt).2.2.1 < i64.wrap ((y0.getD y1.toNat T2.dflt).2.2.1 + (y0.getD y1.toNat T2.dflt).2.2.2.1))) = true) ∧ ((f_u92 k (y0.getD y1.toNat T2.dflt).2.2.2.2.2 (y0.getD y2.toNat T2.dflt).2.2.2.2.2).isSome = true) then
 bif (true && v_u92 k (y0.getD y1.toNat T2.dflt).2.2.2.2.2 (y0.getD y2.toNat T2.dflt).2.2.2.2.2) then
 some 12
 else
 f_u79_20 k j y0 y1 ((i64.wrap (y2 + 1)))
 else none
 else
 if (0 ≤ y1) ∧ (y1 < (↑y0.length : Int)) ∧ (0 ≤ y2) ∧ (y2 < (↑y0.length : Int)) ∧ (((y0.getD y1.toNat T2.dflt).2.1 == (y0.getD y2.toNat T2.dflt).2.1 && decide ((y0.getD y1.toNat T2.dflt).2.2.1 < i64.wrap ((y0.getD y2.toNat T2.dflt).2.2.1 + (y0.getD y2.toNat T2.dflt).2.2.2.1)) && decide ((y0.getD y2.toNat T2.dflt).2.2.1 < i64.wrap ((y0.getD y1.toNat T2.dflt).2.2.1 + (y0.getD y1.toNat T2.dflt).2.2.2.1))) = false) then
 f_u79_20 k j y0 y1 ((i64.wrap (y2 + 1)))
 else none
 else none
 else none
 else
 f_u79_17 k j y0 ((i64.wrap (y1 + 1)))
end
def f_u79 (k : Nat) (l_ : List (T2).T) (width_ : Int) (length_ : Int) : Option R_u79 :=
 bif (decide (width_ < (1 : Int)) || decide (width_ > (12000 : Int)) || decide (length_ < (0 : Int)) || decide (length_ > (17179869184 : Int))) then
 some 1
 else
 bif (decide ((↑l_.length : Int) > (512 : Int))) then
 some 8
 else
 f_u79_6 k k l_ width_ length_ 0
def v_u79 (k : Nat) (l_ : List (T2).T) (width_ : Int) (length_ : Int) : R_u79 := (f_u79 k l_ width_ length_).getD 0
def K_u79 (k : Nat) : Calld := ⟨fun g xs => match g with
 | 35 => match xs with
  | [_, _, _] => some [false, false, false]
  | _ => none
 | 40 => match xs with
  | [_, _, _, _] => some [false, false, false, false]
  | _ => none
 | 41 => match xs with
  | [_, _] => some [false, false]
  | _ => none
 | _ => none, fun g xs bs => match g with
 | 35 => match xs, bs with
  | [.r (.ro tl__ ql_), .r (.v (.int .i64 n_)), .r (.v (.int .i64 id_))], [] => (castL tl__ T2 ql_).bind fun l_ => some (.one (res_u82 (v_u82 k l_ n_ id_), bo_u82 l_ n_ id_ (v_u82 k l_ n_ id_)))
  | _, _ => none
 | 40 => match xs, bs with
  | [.r (.ro tl__ ql_), .r (.v (.int .i64 i_)), .r (.v (.int .i64 width_)), .r (.v (.int .i64 length_))], [] => (castL tl__ T2 ql_).bind fun l_ => some (.one (res_u94 (v_u94 k l_ i_ width_ length_), bo_u94 l_ i_ width_ length_ (v_u94 k l_ i_ width_ length_)))
  | _, _ => none
 | 41 => match xs, bs with
  | [.r (.ro ta__ qa_), .r (.ro tb__ qb_)], [] => (castL ta__ T0 qa_).bind fun a_ => (castL tb__ T0 qb_).bind fun b_ => some (.one (res_u92 (v_u92 k a_ b_), bo_u92 a_ b_ (v_u92 k a_ b_)))
  | _, _ => none
 | _ => none⟩
theorem ev_u79 (k : Nat) (l_ : List (T2).T) (width_ : Int) (length_ : Int) : ∀ j, (∀ (y0 : List (T2).T) (y1 : Int) (y2 : Int) (y3 : Int) (r : R_u79), f_u79_6 k j y0 y1 y2 y3 = some r → Ev Tryz.prog Tryz.f20 0 (placeAt Tryz.f20 6) (st_u79_6 y0 y1 y2 y3) (res_u79 r) (bo_u79 l_ width_ length_ r)) ∧ (∀ (y0 : List (T2).T) (y1 : Int) (r : R_u79), f_u79_12 k j y0 y1 = some r → Ev Tryz.prog Tryz.f20 0 (placeAt Tryz.f20 12) (st_u79_12 y0 y1) (res_u79 r) (bo_u79 l_ width_ length_ r)) ∧ (∀ (y0 : List (T2).T) (y1 : Int) (r : R_u79), f_u79_17 k j y0 y1 = some r → Ev Tryz.prog Tryz.f20 0 (placeAt Tryz.f20 17) (st_u79_17 y0 y1) (res_u79 r) (bo_u79 l_ width_ length_ r)) ∧ (∀ (y0 : List (T2).T) (y1 : Int) (y2 : Int) (r : R_u79), f_u79_20 k j y0 y1 y2 = some r → Ev Tryz.prog Tryz.f20 0 (placeAt Tryz.f20 20) (st_u79_20 y0 y1 y2) (res_u79 r) (bo_u79 l_ width_ length_ r))
 | 0 => by
  refine ⟨?_, ?_, ?_, ?_⟩ <;> intros <;> rename_i h <;> simp [f_u79_6, f_u79_12, f_u79_17, f_u79_20] at h
 | j + 1 => by
  have ih := ev_u79 k l_ width_ length_ j
  refine ⟨?_, ?_, ?_, ?_⟩
  ·intro y0 y1 y2 y3 r h
   rw [f_u79_6] at h
   refine Ev.tree hm (R := Rt) (K := (K_u79 k)) (l := []) (C := [(6, [.autoB [0, 1, 2, 7] false []]), (12, [.autoB [0, 9] false []]), (17, [.autoB [0, 10] false []]), (20, [.autoB [0, 10, 11] false []])]) (E := [.autoB [6] true []]) (n := 1000) (T := .test ((decide (y3 < (↑y0.length : Int)))) (.need [CC Tryz.prog 40 (args_u94 y0 y3 y1 y2) (bin_u94 y0 y3 y1 y2) (res_u94 (v_u94 k y0 y3 y1 y2)) (bo_u94 y0 y3 y1 y2 (v_u94 k y0 y3 y1 y2))] (.test ((v_u94 k y0 y3 y1 y2 != (0 : Int))) (.leaf (res_u79 (v_u94 k y0 y3 y1 y2)) (bo_u79 l_ width_ length_ (v_u94 k y0 y3 y1 y2))) (.cut 6 (placeAt Tryz.f20 6) (st_u79_6 y0 y1 y2 ((i64.wrap (y3 + 1))))))) (.cut 12 (placeAt Tryz.f20 12) (st_u79_12 y0 0))) (by kernel_rfl) ?_
   refine ⟨fun c => ?_, fun c => ?_⟩
   ·rw [cond_t (show ((decide (y3 < (↑y0.length : Int)))) = true from c)] at h
    by_cases q : ((f_u94 k y0 y3 y1 y2).isSome = true)
    ·rw [if_pos q] at h
     refine ⟨(conjC (cc_u94 k y0 y3 y1 y2 q) conj0), ?_⟩
     refine ⟨fun c => ?_, fun c => ?_⟩
     ·rw [cond_t (show ((v_u94 k y0 y3 y1 y2 != (0 : Int))) = true from c)] at h
      cases h; exact ⟨rfl, rfl⟩
     ·rw [cond_f (show ((v_u94 k y0 y3 y1 y2 != (0 : Int))) = false from c)] at h
      exact ih.1 y0 y1 y2 ((i64.wrap (y3 + 1))) _ h
    ·rw [if_neg q] at h; cases h
   ·rw [cond_f (show ((decide (y3 < (↑y0.length : Int)))) = false from c)] at h
    exact ih.2.1 y0 0 _ h
  ·intro y0 y1 r h
   rw [f_u79_12] at h
   refine Ev.tree hm (R := Rt) (K := (K_u79 k)) (l := []) (C := [(6, [.autoB [0, 1, 2, 7] false []]), (12, [.autoB [0, 9] false []]), (17, [.autoB [0, 10] false []]), (20, [.autoB [0, 10, 11] false []])]) (E := [.autoB [6] true []]) (n := 1000) (T := .test ((decide (y1 < (↑y0.length : Int)))) (.need [0 ≤ y1, y1 < (↑y0.length : Int), CC Tryz.prog 35 (args_u82 y0 y1 (y0.getD y1.toNat T2.dflt).1) (bin_u82 y0 y1 (y0.getD y1.toNat T2.dflt).1) (res_u82 (v_u82 k y0 y1 (y0.getD y1.toNat T2.dflt).1)) (bo_u82 y0 y1 (y0.getD y1.toNat T2.dflt).1 (v_u82 k y0 y1 (y0.getD y1.toNat T2.dflt).1))] (.test ((decide (v_u82 k y0 y1 (y0.getD y1.toNat T2.dflt).1 ≥ (0 : Int)))) (.leaf (res_u79 6) (bo_u79 l_ width_ length_ 6)) (.cut 12 (placeAt Tryz.f20 12) (st_u79_12 y0 ((i64.wrap (y1 + 1))))))) (.cut 17 (placeAt Tryz.f20 17) (st_u79_17 y0 0))) (by kernel_rfl) ?_
   refine ⟨fun c => ?_, fun c => ?_⟩
   ·rw [cond_t (show ((decide (y1 < (↑y0.length : Int)))) = true from c)] at h
    by_cases q : (0 ≤ y1) ∧ (y1 < (↑y0.length : Int)) ∧ ((f_u82 k y0 y1 (y0.getD y1.toNat T2.dflt).1).isSome = true)
    ·rw [if_pos q] at h
     refine ⟨(conjC q.1 (conjC q.2.1 (conjC (cc_u82 k y0 y1 (y0.getD y1.toNat T2.dflt).1 q.2.2) conj0))), ?_⟩
     refine ⟨fun c => ?_, fun c => ?_⟩
     ·rw [cond_t (show ((decide (v_u82 k y0 y1 (y0.getD y1.toNat T2.dflt).1 ≥ (0 : Int)))) = true from c)] at h
      cases h; exact ⟨rfl, rfl⟩
     ·rw [cond_f (show ((decide (v_u82 k y0 y1 (y0.getD y1.toNat T2.dflt).1 ≥ (0 : Int)))) = false from c)] at h
      exact ih.2.1 y0 ((i64.wrap (y1 + 1))) _ h
    ·rw [if_neg q] at h; cases h
   ·rw [cond_f (show ((decide (y1 < (↑y0.length : Int)))) = false from c)] at h
    exact ih.2.2.1 y0 0 _ h
  ·intro y0 y1 r h
   rw [f_u79_17] at h
   refine Ev.tree hm (R := Rt) (K := (K_u79 k)) (l := []) (C := [(6, [.autoB [0, 1, 2, 7] false []]), (12, [.autoB [0, 9] false []]), (17, [.autoB [0, 10] false []]), (20, [.autoB [0, 10, 11] false []])]) (E := [.autoB [6] true []]) (n := 1000) (T := .test ((decide (y1 < (↑y0.length : Int)))) (.cut 20 (placeAt Tryz.f20 20) (st_u79_20 y0 y1 0)) (.leaf (res_u79 0) (bo_u79 l_ width_ length_ 0))) (by kernel_rfl) ?_
   refine ⟨fun c => ?_, fun c => ?_⟩
   ·rw [cond_t (show ((decide (y1 < (↑y0.length : Int)))) = true from c)] at h
    exact ih.2.2.2 y0 y1 0 _ h
   ·rw [cond_f (show ((decide (y1 < (↑y0.length : Int)))) = false from c)] at h
    cases h; exact ⟨rfl, rfl⟩
  ·intro y0 y1 y2 r h
   rw [f_u79_20] at h
   refine Ev.tree hm (R := Rt) (K := (K_u79 k)) (l := []) (C := [(6, [.autoB [0, 1, 2, 7] false []]), (12, [.autoB [0, 9] false []]), (17, [.autoB [0, 10] false []]), (20, [.autoB [0, 10, 11] false []])]) (E := [.autoB [6] true []]) (n := 1000) (T := .test ((decide (y2 < y1))) (.need [0 ≤ y1, y1 < (↑y0.length : Int)] (.need [0 ≤ y2, y2 < (↑y0.length : Int)] (.test (((y0.getD y1.toNat T2.dflt).2.1 == (y0.getD y2.toNat T2.dflt).2.1 && decide ((y0.getD y1.toNat T2.dflt).2.2.1 < i64.wrap ((y0.getD y2.toNat T2.dflt).2.2.1 + (y0.getD y2.toNat T2.dflt).2.2.2.1)) && decide ((y0.getD y2.toNat T2.dflt).2.2.1 < i64.wrap ((y0.getD y1.toNat T2.dflt).2.2.1 + (y0.getD y1.toNat T2.dflt).2.2.2.1)))) (.need [0 ≤ y1, y1 < (↑y0.length : Int), 0 ≤ y2, y2 < (↑y0.length : Int), ((y0.getD y1.toNat T2.dflt).2.1 == (y0.getD y2.toNat T2.dflt).2.1 && decide ((y0.getD y1.toNat T2.dflt).2.2.1 < i64.wrap ((y0.getD y2.toNat T2.dflt).2.2.1 + (y0.getD y2.toNat T2.dflt).2.2.2.1)) && decide ((y0.getD y2.toNat T2.dflt).2.2.1 < i64.wrap ((y0.getD y1.toNat T2.dflt).2.2.1 + (y0.getD y1.toNat T2.dflt).2.2.2.1))) = true, CC Tryz.prog 41 (args_u92 (y0.getD y1.toNat T2.dflt).2.2.2.2.2 (y0.getD y2.toNat T2.dflt).2.2.2.2.2) (bin_u92 (y0.getD y1.toNat T2.dflt).2.2.2.2.2 (y0.getD y2.toNat T2.dflt).2.2.2.2.2) (res_u92 (v_u92 k (y0.getD y1.toNat T2.dflt).2.2.2.2.2 (y0.getD y2.toNat T2.dflt).2.2.2.2.2)) (bo_u92 (y0.getD y1.toNat T2.dflt).2.2.2.2.2 (y0.getD y2.toNat T2.dflt).2.2.2.2.2 (v_u92 k (y0.getD y1.toNat T2.dflt).2.2.2.2.2 (y0.getD y2.toNat T2.dflt).2.2.2.2.2))] (.test ((true && v_u92 k (y0.getD y1.toNat T2.dflt).2.2.2.2.2 (y0.getD y2.toNat T2.dflt).2.2.2.2.2)) (.leaf (res_u79 12) (bo_u79 l_ width_ length_ 12)) (.cut 20 (placeAt Tryz.f20 20) (st_u79_20 y0 y1 ((i64.wrap (y2 + 1))))))) (.need [0 ≤ y1, y1 < (↑y0.length : Int), 0 ≤ y2, y2 < (↑y0.length : Int), ((y0.getD y1.toNat T2.dflt).2.1 == (y0.getD y2.toNat T2.dflt).2.1 && decide ((y0.getD y1.toNat T2.dflt).2.2.1 < i64.wrap ((y0.getD y2.toNat T2.dflt).2.2.1 + (y0.getD y2.toNat T2.dflt).2.2.2.1)) && decide ((y0.getD y2.toNat T2.dflt).2.2.1 < i64.wrap ((y0.getD y1.toNat T2.dflt).2.2.1 + (y0.getD y1.toNat T2.dflt).2.2.2.1))) = false] (.test (false) (.leaf (.r (.v (.int .i64 12))) []) (.cut 20 (placeAt Tryz.f20 20) (st_u79_20 y0 y1 ((i64.wrap (y2 + 1)))))))))) (.cut 17 (placeAt Tryz.f20 17) (st_u79_17 y0 ((i64.wrap (y1 + 1)))))) (by kernel_rfl) ?_
   refine ⟨fun c => ?_, fun c => ?_⟩
   ·rw [cond_t (show ((decide (y2 < y1))) = true from c)] at h
    by_cases q : (0 ≤ y1) ∧ (y1 < (↑y0.length : Int))
    ·rw [if_pos q] at h
     refine ⟨(conjC q.1 (conjC q.2 conj0)), ?_⟩
     by_cases q : (0 ≤ y2) ∧ (y2 < (↑y0.length : Int))
     ·rw [if_pos q] at h
      refine ⟨(conjC q.1 (conjC q.2 conj0)), ?_⟩
      refine ⟨fun c => ?_, fun c => ?_⟩
      ·rw [cond_t (show (((y0.getD y1.toNat T2.dflt).2.1 == (y0.getD y2.toNat T2.dflt).2.1 && decide ((y0.getD y1.toNat T2.dflt).2.2.1 < i64.wrap ((y0.getD y2.toNat T2.dflt).2.2.1 + (y0.getD y2.toNat T2.dflt).2.2.2.1)) && decide ((y0.getD y2.toNat T2.dflt).2.2.1 < i64.wrap ((y0.getD y1.toNat T2.dflt).2.2.1 + (y0.getD y1.toNat T2.dflt).2.2.2.1)))) = true from c)] at h
       by_cases q : (0 ≤ y1) ∧ (y1 < (↑y0.length : Int)) ∧ (0 ≤ y2) ∧ (y2 < (↑y0.length : Int)) ∧ (((y0.getD y1.toNat T2.dflt).2.1 == (y0.getD y2.toNat T2.dflt).2.1 && decide ((y0.getD y1.toNat T2.dflt).2.2.1 < i64.wrap ((y0.getD y2.toNat T2.dflt).2.2.1 + (y0.getD y2.toNat T2.dflt).2.2.2.1)) && decide ((y0.getD y2.toNat T2.dflt).2.2.1 < i64.wrap ((y0.getD y1.toNat T2.dflt).2.2.1 + (y0.getD y1.toNat T2.dflt).2.2.2.1))) = true) ∧ ((f_u92 k (y0.getD y1.toNat T2.dflt).2.2.2.2.2 (y0.getD y2.toNat T2.dflt).2.2.2.2.2).isSome = true)
       ·rw [if_pos q] at h
        refine ⟨(conjC q.1 (conjC q.2.1 (conjC q.2.2.1 (conjC q.2.2.2.1 (conjC q.2.2.2.2.1 (conjC (cc_u92 k (y0.getD y1.toNat T2.dflt).2.2.2.2.2 (y0.getD y2.toNat T2.dflt).2.2.2.2.2 q.2.2.2.2.2) conj0)))))), ?_⟩
        refine ⟨fun c => ?_, fun c => ?_⟩
        ·rw [cond_t (show ((true && v_u92 k (y0.getD y1.toNat T2.dflt).2.2.2.2.2 (y0.getD y2.toNat T2.dflt).2.2.2.2.2)) = true from c)] at h
         cases h; exact ⟨rfl, rfl⟩
        ·rw [cond_f (show ((true && v_u92 k (y0.getD y1.toNat T2.dflt).2.2.2.2.2 (y0.getD y2.toNat T2.dflt).2.2.2.2.2)) = false from c)] at h
         exact ih.2.2.2 y0 y1 ((i64.wrap (y2 + 1))) _ h
       ·rw [if_neg q] at h; cases h
      ·rw [cond_f (show (((y0.getD y1.toNat T2.dflt).2.1 == (y0.getD y2.toNat T2.dflt).2.1 && decide ((y0.getD y1.toNat T2.dflt).2.2.1 < i64.wrap ((y0.getD y2.toNat T2.dflt).2.2.1 + (y0.getD y2.toNat T2.dflt).2.2.2.1)) && decide ((y0.getD y2.toNat T2.dflt).2.2.1 < i64.wrap ((y0.getD y1.toNat T2.dflt).2.2.1 + (y0.getD y1.toNat T2.dflt).2.2.2.1)))) = false from c)] at h
       by_cases q : (0 ≤ y1) ∧ (y1 < (↑y0.length : Int)) ∧ (0 ≤ y2) ∧ (y2 < (↑y0.length : Int)) ∧ (((y0.getD y1.toNat T2.dflt).2.1 == (y0.getD y2.toNat T2.dflt).2.1 && decide ((y0.getD y1.toNat T2.dflt).2.2.1 < i64.wrap ((y0.getD y2.toNat T2.dflt).2.2.1 + (y0.getD y2.toNat T2.dflt).2.2.2.1)) && decide ((y0.getD y2.toNat T2.dflt).2.2.1 < i64.wrap ((y0.getD y1.toNat T2.dflt).2.2.1 + (y0.getD y1.toNat T2.dflt).2.2.2.1))) = false)
       ·rw [if_pos q] at h
        refine ⟨(conjC q.1 (conjC q.2.1 (conjC q.2.2.1 (conjC q.2.2.2.1 (conjC q.2.2.2.2 conj0))))), ?_⟩
        refine ⟨fun c => ?_, fun c => ?_⟩
        ·cases c
        exact ih.2.2.2 y0 y1 ((i64.wrap (y2 + 1))) _ h
       ·rw [if_neg q] at h; cases h
     ·rw [if_neg q] at h; cases h
    ·rw [if_neg q] at h; cases h
   ·rw [cond_f (show ((decide (y2 < y1))) = false from c)] at h
    exact ih.2.2.1 y0 ((i64.wrap (y1 + 1))) _ h
theorem of_u79 (k : Nat) (l_ : List (T2).T) (width_ : Int) (length_ : Int) (r : R_u79) (h : f_u79 k l_ width_ length_ = some r) : CC Tryz.prog 20 (args_u79 l_ width_ length_) (bin_u79 l_ width_ length_) (res_u79 r) (bo_u79 l_ width_ length_ r) := by
 refine CC.of (fn := Tryz.f20) (by kernel_rfl) (by kernel_rfl) (by kernel_rfl) (by kernel_rfl) ?_
 unfold f_u79 at h
 refine Ev.tree hm (R := Rt) (K := (K_u79 k)) (l := []) (C := [(6, [.autoB [0, 1, 2, 7] false []]), (12, [.autoB [0, 9] false []]), (17, [.autoB [0, 10] false []]), (20, [.autoB [0, 10, 11] false []])]) (E := [.autoB [6] true []]) (n := 1000) (T := .test ((decide (width_ < (1 : Int)) || decide (width_ > (12000 : Int)) || decide (length_ < (0 : Int)) || decide (length_ > (17179869184 : Int)))) (.leaf (res_u79 1) (bo_u79 l_ width_ length_ 1)) (.test ((decide ((↑l_.length : Int) > (512 : Int)))) (.leaf (res_u79 8) (bo_u79 l_ width_ length_ 8)) (.cut 6 (placeAt Tryz.f20 6) (st_u79_6 l_ width_ length_ 0)))) (by kernel_rfl) ?_
 refine ⟨fun c => ?_, fun c => ?_⟩
 ·rw [cond_t (show ((decide (width_ < (1 : Int)) || decide (width_ > (12000 : Int)) || decide (length_ < (0 : Int)) || decide (length_ > (17179869184 : Int)))) = true from c)] at h
  cases h; exact ⟨rfl, rfl⟩
 ·rw [cond_f (show ((decide (width_ < (1 : Int)) || decide (width_ > (12000 : Int)) || decide (length_ < (0 : Int)) || decide (length_ > (17179869184 : Int)))) = false from c)] at h
  refine ⟨fun c => ?_, fun c => ?_⟩
  ·rw [cond_t (show ((decide ((↑l_.length : Int) > (512 : Int)))) = true from c)] at h
   cases h; exact ⟨rfl, rfl⟩
  ·rw [cond_f (show ((decide ((↑l_.length : Int) > (512 : Int)))) = false from c)] at h
   exact (ev_u79 k l_ width_ length_ k).1 l_ width_ length_ 0 _ h
theorem cc_u79 (k : Nat) (l_ : List (T2).T) (width_ : Int) (length_ : Int) (h : (f_u79 k l_ width_ length_).isSome = true) : CC Tryz.prog 20 (args_u79 l_ width_ length_) (bin_u79 l_ width_ length_) (res_u79 (v_u79 k l_ width_ length_)) (bo_u79 l_ width_ length_ (v_u79 k l_ width_ length_)) := by
 cases e : f_u79 k l_ width_ length_ with
 | none => rw [e] at h; cases h
 | some r => rw [show v_u79 k l_ width_ length_ = r by simp [v_u79, e]]; exact of_u79 k l_ width_ length_ r e

end
end Go.AM
namespace Go.AM
open Go Go.Proofs Go.IntKind

theorem ref42_one_21 (k : Nat) (n : Int) (c : Ch) (hm : goods c.2.2.2) (hl : c.2.2.2.length ≤ 256) : ∀ (d i j : Nat), i + d = c.2.2.2.length → d < j →
  f_u94_21 k j n (i : Int) c = some (if fitsIn n (c.2.2.2.drop i) then 0 else 21) := by
 intro d
 induction d with
 | zero =>
  intro i j hi hj
  obtain ⟨j, rfl⟩ : ∃ q, j = q + 1 := ⟨j - 1, by omega⟩
  rw [f_u94_21, decide_eq_false (by omega : ¬ (i : Int) < (c.2.2.2.length : Int)), cond_false, List.drop_of_length_le (by omega), if_pos (by trivial)]
 | succ d ih =>
  intro i j hi hj
  obtain ⟨j, rfl⟩ : ∃ q, j = q + 1 := ⟨j - 1, by omega⟩
  have hg : good (c.2.2.2.getD i T0.dflt) := hm.mem _ (getD_mem' _ _ _ (by omega))
  rw [f_u94_21, decide_eq_true (by omega : (i : Int) < (c.2.2.2.length : Int)), cond_true, Int.toNat_natCast, ref42_ends_s k _ hg, ref42_ends_v k _ hg, if_pos ⟨by omega, by omega, rfl⟩, drop_cons' c.2.2.2 i T0.dflt (by omega), wrapS i (by omega)]
  show (bif decide (Go.AM.hi (c.2.2.2.getD i T0.dflt) ≥ n) then _ else _) = _
  by_cases h : Go.AM.hi (c.2.2.2.getD i T0.dflt) ≥ n
  ·rw [decide_eq_true h, cond_true, if_neg (fun e : fitsIn n (c.2.2.2.getD i T0.dflt :: c.2.2.2.drop (i + 1)) => by have := e.1; omega)]
  ·rw [decide_eq_false h, cond_false, ih (i + 1) j (by omega) (by omega)]
   by_cases h2 : fitsIn n (c.2.2.2.drop (i + 1))
   ·rw [if_pos h2, if_pos (show fitsIn n (c.2.2.2.getD i T0.dflt :: c.2.2.2.drop (i + 1)) from ⟨by omega, h2⟩)]
   ·rw [if_neg h2, if_neg (fun e : fitsIn n (c.2.2.2.getD i T0.dflt :: c.2.2.2.drop (i + 1)) => h2 e.2)]
theorem ref42_one_tail (k : Nat) (hk : 2100 ≤ k) (c : Ch) (w n : Int) (hw : 0 ≤ w ∧ w ≤ 12000) :
  (bif (decide (c.1 < (0 : Int)) || decide (c.2.1 < (1 : Int)) || decide (c.1 > w) || decide (c.2.1 > i64.wrap (w - c.1))) then some 20
  else if ((f_u68 k c.2.2.2).isSome = true) then
   bif (v_u68 k c.2.2.2 != (0 : Int)) then some (v_u68 k c.2.2.2)
   else bif ((↑ (List.length c.2.2.2) : Int) == (0 : Int)) then some 10
   else if ((f_u71 k c.2.2.2).isSome = true) then
    bif (!v_u71 k c.2.2.2) then some 12
    else f_u94_21 k k n 0 c
   else none
  else none) = some (cutE c w n) := by
 unfold cutE
 rw [cut_test c w hw, ref13_Check_s k (by omega), ref13_Check_v k (by omega), Option.isSome_some, if_pos rfl, ref13_Single_s k hk, ref13_Single_v k hk, Option.isSome_some, if_pos rfl]
 by_cases h1 : c.1 < 0 ∨ c.2.1 < 1 ∨ c.1 > w ∨ c.2.1 > w - c.1
 ·rw [decide_eq_true h1, cond_true, if_pos h1]
 ·rw [decide_eq_false h1, cond_false, if_neg h1]
  by_cases h2 : chk c.2.2.2 = 0
  ·have hc := chk_zero.1 h2
   have hl := hc.len
   rw [show (chk c.2.2.2 != 0) = false by simp [h2], cond_false, if_neg (fun h : chk c.2.2.2 ≠ 0 => h h2)]
   by_cases h3 : c.2.2.2 = []
   ·rw [h3, if_pos rfl]; rfl
   ·rw [if_neg h3, show (((List.length c.2.2.2 : Nat) : Int) == 0) = false from beq_false_of_ne (fun e => h3 (List.length_eq_zero_iff.1 (by omega))), cond_false]
    cases h4 : singleS c.2.2.2
    ·rfl
    ·rw [Bool.not_true, cond_false, if_neg (by decide)]
     refine (ref42_one_21 k n c hc.goods hl c.2.2.2.length 0 k (by omega) (by omega)).trans ?_
     rw [List.drop_zero]
  ·rw [show (chk c.2.2.2 != 0) = true by simp [h2], cond_true, if_pos h2]
theorem ref42_one_s (k : Nat) (hk : 2100 ≤ k) (W L : Int) (hW : 0 ≤ W ∧ W ≤ 12000) (l : List Ro) (i : Nat) (hi : i < l.length) (hl : l.length ≤ 1000) (hp : Wl (l.take i)) : f_u94 k l (i : Int) W L = some (fitsS (l.take i) W L (l.getD i T2.dflt)) := by
 unfold f_u94 fitsS
 rw [if_pos ⟨by omega, by omega⟩, Int.toNat_natCast]
 have hlt : (l.take i).length = i := by rw [List.length_take]; omega
 obtain ⟨o, o1, o2, o3⟩ := ref42_Index_s k (l.take i) (l.drop i) (l.getD i T2.dflt).2.1 (by omega) (by omega)
 rw [List.take_append_drop, hlt] at o1 o2
 generalize hr : l.getD i T2.dflt = r at *
 by_cases h1 : r.1 < 1 ∨ r.1 > 1000000
 ·rw [if_pos h1, show (decide (r.1 < 1) || decide (r.1 > 1000000)) = true by simpa using h1, cond_true]
 ·rw [if_neg h1, show (decide (r.1 < 1) || decide (r.1 > 1000000)) = false by simp; omega, cond_false]
  have hs := hp.size (L := L) hW r.2.1
  by_cases h2 : r.2.1 = 0
  ·rw [show (r.2.1 != 0) = false by simp [h2], cond_false, if_neg (fun h : r.2.1 ≠ 0 ∧ look (l.take i) r.2.1 = none => h.1 h2)]
   unfold sizeS
   rw [if_pos h2]
   exact ref42_one_tail k hk r.2.2 W L hW
  ·rw [show (r.2.1 != 0) = true by simp [h2], cond_true, o1, o2, Option.isSome_some, if_pos rfl]
   cases e : look (l.take i) r.2.1 with
   | none =>
    rw [o3.none e, if_pos (show r.2.1 ≠ 0 ∧ (none : Option Ro) = none from ⟨h2, rfl⟩)]; rfl
   | some q =>
    obtain ⟨x, e1, e2, e3⟩ := o3.some e
    have hq := (hp q (look_some e).1).chk
    have e4 : l.getD x T2.dflt = q := by
     have := e3 T2.dflt
     rw [← this]
     have h5 := getD_app (l.take i) (l.drop i) x T2.dflt e2
     rw [List.take_append_drop] at h5
     exact h5
    have hx : (x : Int) < (l.length : Int) := by omega
    have hx0 : (0 : Int) ≤ (x : Int) := by omega
    rw [e1, if_neg (show ¬ (r.2.1 ≠ 0 ∧ some q = none) from fun h => nomatch h.2), Option.getD_some, decide_eq_false (by omega : ¬ (x : Int) < 0), cond_false, if_pos ⟨hx0, hx⟩, Int.toNat_natCast, e4, ref42_Long_s k hk _ hq, ref42_Long_v k hk _ hq, if_pos ⟨hx0, hx, rfl⟩]
    unfold sizeS
    rw [if_neg h2, e]
    unfold sizeS at hs
    rw [if_neg h2, e] at hs
    exact ref42_one_tail k hk r.2.2 _ _ hs
theorem ref42_one_v (k : Nat) (hk : 2100 ≤ k) (W L : Int) (hW : 0 ≤ W ∧ W ≤ 12000) (l : List Ro) (i : Nat) (hi : i < l.length) (hl : l.length ≤ 1000) (hp : Wl (l.take i)) : v_u94 k l (i : Int) W L = fitsS (l.take i) W L (l.getD i T2.dflt) := by
 unfold v_u94; rw [ref42_one_s k hk W L hW l i hi hl hp]; rfl

theorem ref42_Check_20 (k : Nat) (hk : 70000 ≤ k) (l : List Ro) (hl : Wl l) (hll : l.length ≤ 512) (i : Nat) (hi : i < l.length) : ∀ (d q m : Nat), q + d = i →
  f_u79_20 k (m + d + 1) l (i : Int) (q : Int) = if clash ((l.take i).drop q) (l.getD i T2.dflt) = true then some 12 else f_u79_17 k m l (i64.wrap ((i : Int) + 1)) := by
 intro d
 have hr : Small (l.getD i T2.dflt).2.2 := hl _ (getD_mem' _ _ _ (by omega))
 have hlt : (l.take i).length = i := by rw [List.length_take]; omega
 induction d with
 | zero =>
  intro q m hq
  rw [f_u79_20, decide_eq_false (by omega : ¬ (q : Int) < (i : Int)), cond_false, List.drop_of_length_le (by omega), if_neg (by unfold clash; rw [List.any_nil]; decide)]
 | succ d ih =>
  intro q m hq
  have hs : Small (l.getD q T2.dflt).2.2 := hl _ (getD_mem' _ _ _ (by omega))
  have hc : clash ((l.take i).drop q) (l.getD i T2.dflt) = (((l.getD i T2.dflt).2.1 == (l.getD q T2.dflt).2.1) && ovlS (l.getD i T2.dflt).2.2 (l.getD q T2.dflt).2.2 || clash ((l.take i).drop (q + 1)) (l.getD i T2.dflt)) := by
   have h5 := getD_app (l.take i) (l.drop i) q T2.dflt (by omega)
   rw [List.take_append_drop] at h5
   rw [h5]
   unfold clash
   rw [drop_cons' (l.take i) q T2.dflt (by omega), List.any_cons]
  obtain ⟨a1, a2, a3, a4⟩ := hr
  obtain ⟨b1, b2, b3, b4⟩ := hs
  rw [show m + (d + 1) + 1 = (m + d + 1) + 1 from rfl, f_u79_20, decide_eq_true (by omega : (q : Int) < (i : Int)), cond_true, if_pos ⟨by omega, by omega⟩, if_pos ⟨by omega, by omega⟩, Int.toNat_natCast, Int.toNat_natCast, hc, wrapS q (by omega), ih (q + 1) m (by omega)]
  generalize clash ((l.take i).drop (q + 1)) (l.getD i T2.dflt) = z
  generalize l.getD i T2.dflt = r at *
  generalize l.getD q T2.dflt = b at *
  rw [wrap_id (i := b.2.2.1 + b.2.2.2.1) (by omega) (by omega), wrap_id (i := r.2.2.1 + r.2.2.2.1) (by omega) (by omega)]
  unfold ovlS
  cases e : ((r.2.1 == b.2.1) && decide (r.2.2.1 < b.2.2.1 + b.2.2.2.1) && decide (b.2.2.1 < r.2.2.1 + r.2.2.2.1))
  ·rw [cond_false, if_pos ⟨by omega, by omega, by omega, by omega, rfl⟩]
   rw [show ((r.2.1 == b.2.1) && ((decide (r.2.2.1 < b.2.2.1 + b.2.2.2.1) && decide (b.2.2.1 < r.2.2.1 + r.2.2.2.1)) && meetS r.2.2.2.2.2 b.2.2.2.2.2)) = false by rw [← Bool.and_assoc, ← Bool.and_assoc, e, Bool.false_and], Bool.false_or]
  ·rw [cond_true, ref42_meet_s k hk _ _ a4 b4, ref42_meet_v k hk _ _ a4 b4, if_pos ⟨by omega, by omega, by omega, by omega, rfl, rfl⟩, Bool.true_and]
   rw [show ((r.2.1 == b.2.1) && ((decide (r.2.2.1 < b.2.2.1 + b.2.2.2.1) && decide (b.2.2.1 < r.2.2.1 + r.2.2.2.1)) && meetS r.2.2.2.2.2 b.2.2.2.2.2)) = meetS r.2.2.2.2.2 b.2.2.2.2.2 by rw [← Bool.and_assoc, ← Bool.and_assoc, e, Bool.true_and]]
   cases meetS r.2.2.2.2.2 b.2.2.2.2.2
   ·rw [cond_false, Bool.false_or]
   ·rfl
set_option maxRecDepth 20000 in
theorem ref42_Check_17 (k : Nat) (hk : 70000 ≤ k) (l : List Ro) (hl : Wl l) (hll : l.length ≤ 512) : ∀ (d i j : Nat), i + d = l.length → d * 514 < j →
  f_u79_17 k j l (i : Int) = some (if clashGo (l.take i) (l.drop i) = true then 12 else 0) := by
 intro d
 induction d with
 | zero =>
  intro i j hi hj
  obtain ⟨j, rfl⟩ : ∃ q, j = q + 1 := ⟨j - 1, by omega⟩
  rw [f_u79_17, decide_eq_false (by omega : ¬ (i : Int) < (l.length : Int)), cond_false, List.drop_of_length_le (by omega), clashGo, if_neg (by decide)]
 | succ d ih =>
  intro i j hi hj
  obtain ⟨j, rfl⟩ : ∃ q, j = (q + i + 1) + 1 := ⟨j - i - 2, by omega⟩
  have h20 := ref42_Check_20 k hk l hl hll i (by omega) i 0 j (by omega)
  rw [f_u79_17, decide_eq_true (by omega : (i : Int) < (l.length : Int)), cond_true]
  refine h20.trans ?_
  rw [List.drop_zero, wrapS i (by omega), ih (i + 1) j (by omega) (by omega), drop_cons' l i T2.dflt (by omega), clashGo, take_snoc l i T2.dflt (by omega)]
  cases clash (l.take i) (l.getD i T2.dflt)
  ·rw [if_neg (by decide), Bool.false_or]
  ·rfl
set_option maxRecDepth 20000 in
theorem ref42_Check_12 (k : Nat) (hk : 70000 ≤ k) (l : List Ro) (hl : Wl l) (hll : l.length ≤ 512) : ∀ (d i j : Nat), i + d = l.length → d + 1 + 263168 < j →
  f_u79_12 k j l (i : Int) = some (if dupGo (l.take i) (l.drop i) = true then 6 else if clashGo [] l = true then 12 else 0) := by
 intro d
 induction d with
 | zero =>
  intro i j hi hj
  obtain ⟨j, rfl⟩ : ∃ q, j = q + 1 := ⟨j - 1, by omega⟩
  have h17 := ref42_Check_17 k hk l hl hll l.length 0 j (by omega) (by omega)
  rw [f_u79_12, decide_eq_false (by omega : ¬ (i : Int) < (l.length : Int)), cond_false, List.drop_of_length_le (by omega), dupGo, if_neg (by decide)]
  exact h17
 | succ d ih =>
  intro i j hi hj
  obtain ⟨j, rfl⟩ : ∃ q, j = q + 1 := ⟨j - 1, by omega⟩
  have hlt : (l.take i).length = i := by rw [List.length_take]; omega
  obtain ⟨o, o1, o2, o3⟩ := ref42_Index_s k (l.take i) (l.drop i) (l.getD i T2.dflt).1 (by omega) (by omega)
  rw [List.take_append_drop, hlt] at o1 o2
  rw [f_u79_12, decide_eq_true (by omega : (i : Int) < (l.length : Int)), cond_true, Int.toNat_natCast, o1, o2, if_pos ⟨by omega, by omega, rfl⟩, drop_cons' l i T2.dflt (by omega), dupGo, wrapS i (by omega), ih (i + 1) j (by omega) (by omega), take_snoc l i T2.dflt (by omega)]
  cases e : look (l.take i) (l.getD i T2.dflt).1 with
  | none => rw [o3.none e]; rfl
  | some q =>
   obtain ⟨x, e1, _, _⟩ := o3.some e
   rw [e1, Option.getD_some, decide_eq_true (by omega : (x : Int) ≥ 0)]; rfl
theorem ref42_Check_6 (k : Nat) (hk : 70000 ≤ k) (l : List Ro) (W L : Int) (hW : 0 ≤ W ∧ W ≤ 12000) (hll : l.length ≤ 512) : ∀ (d i j : Nat), i + d = l.length → d + 2 + 512 + 263168 < j → Wl (l.take i) →
  f_u79_6 k j l W L (i : Int) = some (if errsGo W L (l.take i) (l.drop i) ≠ 0 then errsGo W L (l.take i) (l.drop i) else if dupGo [] l = true then 6 else if clashGo [] l = true then 12 else 0) := by
 intro d
 induction d with
 | zero =>
  intro i j hi hj hw
  obtain ⟨j, rfl⟩ : ∃ q, j = q + 1 := ⟨j - 1, by omega⟩
  rw [List.take_of_length_le (by omega : l.length ≤ i)] at hw
  have h12 := ref42_Check_12 k hk l hw hll l.length 0 j (by omega) (by omega)
  rw [f_u79_6, decide_eq_false (by omega : ¬ (i : Int) < (l.length : Int)), cond_false, List.drop_of_length_le (by omega), errsGo, if_neg (fun h => h rfl)]
  exact h12
 | succ d ih =>
  intro i j hi hj hw
  obtain ⟨j, rfl⟩ : ∃ q, j = q + 1 := ⟨j - 1, by omega⟩
  have ht := take_snoc l i T2.dflt (by omega)
  rw [f_u79_6, decide_eq_true (by omega : (i : Int) < (l.length : Int)), cond_true, ref42_one_s k (by omega) W L hW l i (by omega) (by omega) hw, ref42_one_v k (by omega) W L hW l i (by omega) (by omega) hw, Option.isSome_some, if_pos rfl, drop_cons' l i T2.dflt (by omega), errsGo, wrapS i (by omega)]
  by_cases h1 : fitsS (l.take i) W L (l.getD i T2.dflt) = 0
  ·have hw2 : Wl (l.take (i + 1)) := by rw [ht]; exact hw.snoc hW h1
   have := ih (i + 1) j (by omega) (by omega) hw2
   rw [h1]
   show f_u79_6 k j l W L ((i + 1 : Nat) : Int) = _
   rw [this, ht]
   rfl
  ·rw [show (fitsS (l.take i) W L (l.getD i T2.dflt) != 0) = true from bne_iff_ne.2 h1, cond_true, if_pos h1, if_pos h1]
theorem ref42_Check_s (k : Nat) (hk : 300000 ≤ k) (l : List Ro) (W L : Int) : f_u79 k l W L = some (checkS l W L) := by
 unfold f_u79 checkS
 by_cases h1 : W < 1 ∨ W > 12000 ∨ L < 0 ∨ L > 17179869184
 ·rw [if_pos h1, show (decide (W < (1 : Int)) || decide (W > (12000 : Int)) || decide (L < (0 : Int)) || decide (L > (17179869184 : Int))) = true by simp; omega]
  rfl
 ·rw [if_neg h1, show (decide (W < (1 : Int)) || decide (W > (12000 : Int)) || decide (L < (0 : Int)) || decide (L > (17179869184 : Int))) = false by simp; omega, cond_false]
  by_cases h2 : l.length > 512
  ·rw [if_pos h2, decide_eq_true (by omega : (l.length : Int) > 512)]
   rfl
  ·rw [if_neg h2, decide_eq_false (by omega : ¬ (l.length : Int) > 512), cond_false]
   have := ref42_Check_6 k (by omega) l W L (by omega) (by omega) l.length 0 k (by omega) (by omega) (fun r hr => by simp at hr)
   exact this
theorem ref42_Check_v (k : Nat) (hk : 300000 ≤ k) (l : List Ro) (W L : Int) : v_u79 k l W L = checkS l W L := by
 unfold v_u79; rw [ref42_Check_s k hk l W L]; rfl
end Go.AM
namespace Go.AM
open Go Go.IntKind

theorem look_left {a : List Ro} {id : Int} {q : Ro} (b : List Ro) (h : look a id = some q) : look (a ++ b) id = some q := by
 rw [look_append, h]; rfl
theorem size_left {a : List Ro} {W L id : Int} (b : List Ro) (h : id = 0 ∨ ∃ q, look a id = some q) : sizeS (a ++ b) W L id = sizeS a W L id := by
 unfold sizeS
 by_cases h0 : id = 0
 ·rw [if_pos h0, if_pos h0]
 ·rw [if_neg h0, if_neg h0]
  rcases h with h | ⟨q, h⟩
  ·exact absurd h h0
  ·rw [look_left b h, h]
structure RollOk (l : List Ro) (W L : Int) (r : Ro) : Prop where
 look : look l r.1 = some r
 pos : 1 ≤ r.1
 parent : r.2.1 = 0 ∨ ∃ q, Go.AM.look l r.2.1 = some q
 cut : CutOk r.2.2 (sizeS l W L r.2.1).1 (sizeS l W L r.2.1).2
theorem Okp.ro {W L : Int} {l : List Ro} (h : Okp W L l) : ∀ r ∈ l, RollOk l W L r := by
 induction h with
 | nil => intro r hr; simp at hr
 | snoc p r h f n c ih =>
  intro x hx
  rcases List.mem_append.1 hx with hx | hx
  ·obtain ⟨a, b, c, d⟩ := ih x hx
   refine ⟨look_left _ a, b, ?_, by rw [size_left _ c]; exact d⟩
   rcases c with c | ⟨q, c⟩
   ·exact .inl c
   ·exact .inr ⟨q, look_left _ c⟩
  ·rw [List.mem_singleton] at hx
   subst hx
   obtain ⟨a, b, c, d⟩ := f
   refine ⟨?_, a, ?_, by rw [size_left _ c]; exact d⟩
   ·rw [look_append, n, Option.none_or]; unfold Go.AM.look; simp
   ·rcases c with c | ⟨q, c⟩
    ·exact .inl c
    ·exact .inr ⟨q, look_left _ c⟩
inductive Anc (l : List Ro) : Nat → Int → Prop
 | root (n : Nat) : Anc l n 0
 | step (n : Nat) (id : Int) (r : Ro) (h0 : id ≠ 0) (h : look l id = some r) (a : Anc l n r.2.1) : Anc l (n + 1) id
theorem Anc.mono {l : List Ro} {n m : Nat} {id : Int} (h : Anc l n id) (hm : n ≤ m) : Anc l m id := by
 induction h generalizing m with
 | root n => exact .root m
 | step n id r h0 h a ih =>
  obtain ⟨m, rfl⟩ : ∃ q, m = q + 1 := ⟨m - 1, by omega⟩
  exact .step m id r h0 h (ih (by omega))
theorem Anc.left {l : List Ro} {n : Nat} {id : Int} (h : Anc l n id) (t : List Ro) : Anc (l ++ t) n id := by
 induction h with
 | root n => exact .root n
 | step n id r h0 h a ih => exact .step n id r h0 (look_left t h) ih
theorem Okp.anc {W L : Int} {l : List Ro} (h : Okp W L l) : ∀ r ∈ l, Anc l l.length r.1 := by
 induction h with
 | nil => intro r hr; simp at hr
 | snoc p r h f n c ih =>
  intro x hx
  rw [List.length_append, List.length_singleton]
  rcases List.mem_append.1 hx with hx | hx
  ·exact ((ih x hx).mono (by omega)).left _
  ·rw [List.mem_singleton] at hx
   subst hx
   obtain ⟨a, b, c, d⟩ := f
   refine .step p.length x.1 x (by omega) (by rw [look_append, n, Option.none_or]; unfold look; simp) ?_
   rcases c with c | ⟨q, c⟩
   ·rw [c]; exact .root _
   ·have := (ih q (look_some c).1).left [x]
    rw [(look_some c).2] at this
    exact this
theorem Reg.anc {W L : Int} {l : List Ro} (h : Reg l W L) {id : Int} (hi : id = 0 ∨ ∃ q, look l id = some q) : Anc l 512 id := by
 rcases hi with rfl | ⟨q, e⟩
 ·exact .root _
 ·have := h.ok.anc q (look_some e).1
  rw [(look_some e).2] at this
  exact this.mono h.num
theorem Reg.small {W L : Int} {l : List Ro} (h : Reg l W L) : ∀ (n : Nat) (id : Int), Anc l n id → 0 ≤ (sizeS l W L id).1 ∧ (sizeS l W L id).1 ≤ 12000 ∧ 0 ≤ (sizeS l W L id).2 ∧ (sizeS l W L id).2 ≤ 17179869184 := by
 intro n id ha
 have hw := h.w
 have hl := h.len
 induction ha with
 | root n => unfold sizeS; rw [if_pos rfl]; omega
 | step n id r h0 e a ih =>
  have ro := h.ok.ro r (look_some e).1
  obtain ⟨c1, c2, c3, c4, _⟩ := ro.cut
  have h1 : (sizeS l W L id) = (r.2.2.2.1, lenS r.2.2.2.2.2) := by unfold sizeS; rw [if_neg h0, e]
  rw [h1]
  have h2 := lenS_nonneg c4.goods
  have h3 := c4.tot
  refine ⟨?_, ?_, ?_, ?_⟩
  ·show 0 ≤ r.2.2.2.1; omega
  ·show r.2.2.2.1 ≤ _; omega
  ·show 0 ≤ lenS r.2.2.2.2.2; omega
  ·show lenS r.2.2.2.2.2 ≤ _; omega

def placeS (r : Ro) (p : Pt) : Pt := (r.2.1, (if r.2.2.2.2.1 = true then r.2.2.1 + r.2.2.2.1 - 1 - p.2.1 else r.2.2.1 + p.2.1), imgAt r.2.2.2.2.2 p.2.2)
def onS (l : List Ro) (W L : Int) (p : Pt) : Int :=
 if p.2.1 < 0 ∨ p.2.1 ≥ (sizeS l W L p.1).1 then 20 else if p.2.2 < 0 ∨ p.2.2 ≥ (sizeS l W L p.1).2 then 21 else 0
structure On (l : List Ro) (W L : Int) (p : Pt) : Prop where
 a0 : 0 ≤ p.2.1
 a1 : p.2.1 < (sizeS l W L p.1).1
 b0 : 0 ≤ p.2.2
 b1 : p.2.2 < (sizeS l W L p.1).2
theorem onS_zero {l : List Ro} {W L : Int} {p : Pt} : onS l W L p = 0 ↔ On l W L p := by
 unfold onS
 constructor
 ·intro h
  by_cases h1 : p.2.1 < 0 ∨ p.2.1 ≥ (sizeS l W L p.1).1
  ·rw [if_pos h1] at h; omega
  ·rw [if_neg h1] at h
   by_cases h2 : p.2.2 < 0 ∨ p.2.2 ≥ (sizeS l W L p.1).2
   ·rw [if_pos h2] at h; omega
   ·exact ⟨by omega, by omega, by omega, by omega⟩
 ·rintro ⟨h1, h2, h3, h4⟩
  rw [if_neg (by omega), if_neg (by omega)]
theorem imgAt_mem : ∀ {m : List Rn} {x : Int}, goods m → 0 ≤ x → x < lenS m → ∃ r ∈ m, lo r ≤ imgAt m x ∧ imgAt m x ≤ hi r
 | [], x, _, h0, h1 => by simp [lenS] at h1; omega
 | r :: t, x, ⟨g1, g2⟩, h0, h1 => by
  rw [lenS] at h1
  unfold imgAt
  by_cases h : x < r.2.1
  ·rw [if_pos h]
   exact ⟨r, by simp, img_mem h0 h⟩
  ·rw [if_neg h]
   obtain ⟨q, hq, a⟩ := imgAt_mem g2 (by omega : 0 ≤ x - r.2.1) (by omega)
   exact ⟨q, by simp [hq], a⟩
theorem fits_mem {n : Int} : ∀ {l : List Rn}, fitsIn n l → ∀ r ∈ l, hi r < n
 | [], _, r, h => by simp at h
 | u :: t, ⟨h1, h2⟩, r, hr => by
  rcases List.mem_cons.1 hr with rfl | hr
  ·exact h1
  ·exact fits_mem h2 r hr
theorem On.place {l : List Ro} {W L : Int} {p : Pt} {r : Ro} (hp : p.1 ≠ 0) (h : On l W L p) (e : look l p.1 = some r) (ro : RollOk l W L r) : On l W L (placeS r p) := by
 obtain ⟨a0, a1, b0, b1⟩ := h
 obtain ⟨c1, c2, c3, c4, c5, c6, c7⟩ := ro.cut
 have h1 : (sizeS l W L p.1) = (r.2.2.2.1, lenS r.2.2.2.2.2) := by unfold sizeS; rw [if_neg hp, e]
 rw [h1] at a1 b1
 have a1 : p.2.1 < r.2.2.2.1 := a1
 have b1 : p.2.2 < lenS r.2.2.2.2.2 := b1
 obtain ⟨x, hx, i1, i2⟩ := imgAt_mem c4.goods b0 b1
 have h2 := fits_mem c7 x hx
 obtain ⟨l1, l2, l3, l4⟩ := (c4.goods.mem x hx).lohi
 refine ⟨?_, ?_, ?_, ?_⟩
 ·show 0 ≤ (if r.2.2.2.2.1 = true then _ else _ : Int)
  split <;> omega
 ·show (if r.2.2.2.2.1 = true then _ else _ : Int) < (sizeS l W L r.2.1).1
  split <;> omega
 ·show 0 ≤ imgAt _ _; omega
 ·show imgAt _ _ < (sizeS l W L r.2.1).2; omega

def webS (l : List Ro) : Nat → Pt → Pt
 | 0, p => p
 | n + 1, p => if p.1 = 0 then p else match look l p.1 with
  | none => p
  | some r => webS l n (placeS r p)
end Go.AM
namespace Go.AM
open Go Go.Proofs Go.IntKind
set_option linter.unusedVariables false
noncomputable section
abbrev RA_u14 : Type := Int
def resA_u14 (r : RA_u14) : AV := .tup [.r (.v (Value.pointer none)), .r (.v (.int .i64 r))]
def boA_u14 (l_ : List (T2).T) (web_ : T5.T) (id_ : Int) (r : RA_u14) : List (Nat × Blk) := []
abbrev RB_u14 : Type := Int × Int × Int × List (T2).T × (List ((I).T × (I).T))
def resB_u14 (r : RB_u14) : AV := .tup [.ptr 0 0 0, .r (.v (.int .i64 r.1))]
def boB_u14 (l_ : List (T2).T) (web_ : T5.T) (id_ : Int) (r : RB_u14) : List (Nat × Blk) := [(0, .var 73 [.r (.v (.int .i64 r.2.1)), .r (.v (.int .i64 r.2.2.1)), .r (.ro T2 r.2.2.2.1), .own 1 0]), (0, .map false I I r.2.2.2.2)]
abbrev R_u14 : Type := RA_u14 ⊕ RB_u14
def res_u14 (r : R_u14) : AV := match r with
 | .inl a => resA_u14 a
 | .inr a => resB_u14 a
def bo_u14 (l_ : List (T2).T) (web_ : T5.T) (id_ : Int) (r : R_u14) : List (Nat × Blk) := match r with
 | .inl a => boA_u14 l_ web_ id_ a
 | .inr a => boB_u14 l_ web_ id_ a
def args_u14 (l_ : List (T2).T) (web_ : T5.T) (id_ : Int) : List AV := [.r (.ro T2 l_), .agg (rvs (enc T5 web_)), .r (.v (.int .i64 id_))]
def bin_u14 (l_ : List (T2).T) (web_ : T5.T) (id_ : Int) : List Blk := []
def f_u14 (k : Nat) (l_ : List (T2).T) (web_ : T5.T) (id_ : Int) : Option R_u14 :=
 bif (Sum.isLeft (v_u15 k l_ web_)) then
 if ((f_u15 k l_ web_).isSome = true) then
 bif (vA_u15 k l_ web_ == (0 : Int) && id_ != (0 : Int)) then
 none
 else
 if ((vA_u15 k l_ web_ == (0 : Int) && id_ != (0 : Int)) = false) then
 some ((.inl (vA_u15 k l_ web_)))
 else none
 else none
 else
 if ((f_u15 k l_ web_).isSome = true) then
 bif ((vB_u15 k l_ web_).1 == (0 : Int) && id_ != (0 : Int)) then
 if (((vB_u15 k l_ web_).1 == (0 : Int) && id_ != (0 : Int)) = true) ∧ ((f_u24 k (vB_u15 k l_ web_).2.1 (vB_u15 k l_ web_).2.2.1 (vB_u15 k l_ web_).2.2.2.1 (vB_u15 k l_ web_).2.2.2.2 id_).isSome = true) then
 bif (true && (!v_u24 k (vB_u15 k l_ web_).2.1 (vB_u15 k l_ web_).2.2.1 (vB_u15 k l_ web_).2.2.2.1 (vB_u15 k l_ web_).2.2.2.2 id_)) then
 some ((.inl 7))
 else
 some ((.inr (((vB_u15 k l_ web_).1, (vB_u15 k l_ web_).2.1, (vB_u15 k l_ web_).2.2.1, (vB_u15 k l_ web_).2.2.2.1, (vB_u15 k l_ web_).2.2.2.2))))
 else none
 else
 if (((vB_u15 k l_ web_).1 == (0 : Int) && id_ != (0 : Int)) = false) then
 some ((.inr (((vB_u15 k l_ web_).1, (vB_u15 k l_ web_).2.1, (vB_u15 k l_ web_).2.2.1, (vB_u15 k l_ web_).2.2.2.1, (vB_u15 k l_ web_).2.2.2.2))))
 else none
 else none
def v_u14 (k : Nat) (l_ : List (T2).T) (web_ : T5.T) (id_ : Int) : R_u14 := (f_u14 k l_ web_ id_).getD (.inl 0)
def vA_u14 (k : Nat) (l_ : List (T2).T) (web_ : T5.T) (id_ : Int) : RA_u14 := lft 0 (v_u14 k l_ web_ id_)
def vB_u14 (k : Nat) (l_ : List (T2).T) (web_ : T5.T) (id_ : Int) : RB_u14 := rgt ((0, 0, 0, [], [])) (v_u14 k l_ web_ id_)
def K_u14 (k : Nat) : Calld := ⟨fun g xs => match g with
 | 49 => match xs with
  | [.ptr _ _ _, _] => some [true, false]
  | _ => none
 | 39 => match xs with
  | [_, _] => some [false, false]
  | _ => none
 | _ => none, fun g xs bs => match g with
 | 49 => match xs, bs with
  | [.ptr 0 0 0, .r (.v (.int .i64 id_))], [.var 73 [.r (.v (.int .i64 g_0)), .r (.v (.int .i64 g_1)), .r (.ro tg_2_ qg_2), .own 1 0], .map false kg_3_ tg_3_ qg_3] => (castL tg_2_ T2 qg_2).bind fun g_2 => (castM kg_3_ tg_3_ I I qg_3).bind fun g_3 => some (.one (res_u24 (v_u24 k g_0 g_1 g_2 g_3 id_), bo_u24 g_0 g_1 g_2 g_3 id_ (v_u24 k g_0 g_1 g_2 g_3 id_)))
  | _, _ => none
 | 39 => match xs, bs with
  | [.r (.ro tl__ ql_), .agg qweb_], [] => (castL tl__ T2 ql_).bind fun l_ => (decS [] T5 qweb_).bind fun web_ => some (.two (v_u15 k l_ web_).isLeft (resA_u15 (vA_u15 k l_ web_), boA_u15 l_ web_ (vA_u15 k l_ web_)) (resB_u15 (vB_u15 k l_ web_), boB_u15 l_ web_ (vB_u15 k l_ web_)))
  | _, _ => none
 | _ => none⟩
theorem of_u14 (k : Nat) (l_ : List (T2).T) (web_ : T5.T) (id_ : Int) (r : R_u14) (h : f_u14 k l_ web_ id_ = some r) : CC Tryz.prog 30 (args_u14 l_ web_ id_) (bin_u14 l_ web_ id_) (res_u14 r) (bo_u14 l_ web_ id_ r) := by
 refine CC.of (fn := Tryz.f30) (by kernel_rfl) (by kernel_rfl) (by kernel_rfl) (by kernel_rfl) ?_
 unfold f_u14 at h
 refine Ev.tree hm (R := Rt) (K := (K_u14 k)) (l := []) (C := []) (E := [.autoB [6, 7] true []]) (n := 1000) (T := .test ((Sum.isLeft (v_u15 k l_ web_))) (.need [CC Tryz.prog 39 (args_u15 l_ web_) (bin_u15 l_ web_) (resA_u15 (vA_u15 k l_ web_)) (boA_u15 l_ web_ (vA_u15 k l_ web_))] (.test ((vA_u15 k l_ web_ == (0 : Int) && id_ != (0 : Int))) (.stuck 2009) (.need [(vA_u15 k l_ web_ == (0 : Int) && id_ != (0 : Int)) = false] (.test (false) (.leaf (.tup [.r (.v (Value.pointer none)), .r (.v (.int .i64 7))]) []) (.leaf (resA_u14 (vA_u15 k l_ web_)) (boA_u14 l_ web_ id_ (vA_u15 k l_ web_))))))) (.need [CC Tryz.prog 39 (args_u15 l_ web_) (bin_u15 l_ web_) (resB_u15 (vB_u15 k l_ web_)) (boB_u15 l_ web_ (vB_u15 k l_ web_))] (.test (((vB_u15 k l_ web_).1 == (0 : Int) && id_ != (0 : Int))) (.need [((vB_u15 k l_ web_).1 == (0 : Int) && id_ != (0 : Int)) = true, CC Tryz.prog 49 (args_u24 (vB_u15 k l_ web_).2.1 (vB_u15 k l_ web_).2.2.1 (vB_u15 k l_ web_).2.2.2.1 (vB_u15 k l_ web_).2.2.2.2 id_) (bin_u24 (vB_u15 k l_ web_).2.1 (vB_u15 k l_ web_).2.2.1 (vB_u15 k l_ web_).2.2.2.1 (vB_u15 k l_ web_).2.2.2.2 id_) (res_u24 (v_u24 k (vB_u15 k l_ web_).2.1 (vB_u15 k l_ web_).2.2.1 (vB_u15 k l_ web_).2.2.2.1 (vB_u15 k l_ web_).2.2.2.2 id_)) (bo_u24 (vB_u15 k l_ web_).2.1 (vB_u15 k l_ web_).2.2.1 (vB_u15 k l_ web_).2.2.2.1 (vB_u15 k l_ web_).2.2.2.2 id_ (v_u24 k (vB_u15 k l_ web_).2.1 (vB_u15 k l_ web_).2.2.1 (vB_u15 k l_ web_).2.2.2.1 (vB_u15 k l_ web_).2.2.2.2 id_))] (.test ((true && (!v_u24 k (vB_u15 k l_ web_).2.1 (vB_u15 k l_ web_).2.2.1 (vB_u15 k l_ web_).2.2.2.1 (vB_u15 k l_ web_).2.2.2.2 id_))) (.leaf (resA_u14 7) (boA_u14 l_ web_ id_ 7)) (.leaf (resB_u14 (((vB_u15 k l_ web_).1, (vB_u15 k l_ web_).2.1, (vB_u15 k l_ web_).2.2.1, (vB_u15 k l_ web_).2.2.2.1, (vB_u15 k l_ web_).2.2.2.2))) (boB_u14 l_ web_ id_ (((vB_u15 k l_ web_).1, (vB_u15 k l_ web_).2.1, (vB_u15 k l_ web_).2.2.1, (vB_u15 k l_ web_).2.2.2.1, (vB_u15 k l_ web_).2.2.2.2)))))) (.need [((vB_u15 k l_ web_).1 == (0 : Int) && id_ != (0 : Int)) = false] (.test (false) (.leaf (.tup [.r (.v (Value.pointer none)), .r (.v (.int .i64 7))]) []) (.leaf (resB_u14 (((vB_u15 k l_ web_).1, (vB_u15 k l_ web_).2.1, (vB_u15 k l_ web_).2.2.1, (vB_u15 k l_ web_).2.2.2.1, (vB_u15 k l_ web_).2.2.2.2))) (boB_u14 l_ web_ id_ (((vB_u15 k l_ web_).1, (vB_u15 k l_ web_).2.1, (vB_u15 k l_ web_).2.2.1, (vB_u15 k l_ web_).2.2.2.1, (vB_u15 k l_ web_).2.2.2.2))))))))) (by kernel_rfl) ?_
 refine ⟨fun c => ?_, fun c => ?_⟩
 ·rw [cond_t (show ((Sum.isLeft (v_u15 k l_ web_))) = true from c)] at h
  by_cases q : ((f_u15 k l_ web_).isSome = true)
  ·rw [if_pos q] at h
   refine ⟨(conjC (ccA_u15 k l_ web_ q (by assumption)) conj0), ?_⟩
   refine ⟨fun c => ?_, fun c => ?_⟩
   ·rw [cond_t (show ((vA_u15 k l_ web_ == (0 : Int) && id_ != (0 : Int))) = true from c)] at h
    cases h
   ·rw [cond_f (show ((vA_u15 k l_ web_ == (0 : Int) && id_ != (0 : Int))) = false from c)] at h
    by_cases q : ((vA_u15 k l_ web_ == (0 : Int) && id_ != (0 : Int)) = false)
    ·rw [if_pos q] at h
     refine ⟨(conjC q conj0), ?_⟩
     refine ⟨fun c => ?_, fun c => ?_⟩
     ·cases c
     cases h; exact ⟨rfl, rfl⟩
    ·rw [if_neg q] at h; cases h
  ·rw [if_neg q] at h; cases h
 ·rw [cond_f (show ((Sum.isLeft (v_u15 k l_ web_))) = false from c)] at h
  by_cases q : ((f_u15 k l_ web_).isSome = true)
  ·rw [if_pos q] at h
   refine ⟨(conjC (ccB_u15 k l_ web_ q (by assumption)) conj0), ?_⟩
   refine ⟨fun c => ?_, fun c => ?_⟩
   ·rw [cond_t (show (((vB_u15 k l_ web_).1 == (0 : Int) && id_ != (0 : Int))) = true from c)] at h
    by_cases q : (((vB_u15 k l_ web_).1 == (0 : Int) && id_ != (0 : Int)) = true) ∧ ((f_u24 k (vB_u15 k l_ web_).2.1 (vB_u15 k l_ web_).2.2.1 (vB_u15 k l_ web_).2.2.2.1 (vB_u15 k l_ web_).2.2.2.2 id_).isSome = true)
    ·rw [if_pos q] at h
     refine ⟨(conjC q.1 (conjC (cc_u24 k (vB_u15 k l_ web_).2.1 (vB_u15 k l_ web_).2.2.1 (vB_u15 k l_ web_).2.2.2.1 (vB_u15 k l_ web_).2.2.2.2 id_ q.2) conj0)), ?_⟩
     refine ⟨fun c => ?_, fun c => ?_⟩
     ·rw [cond_t (show ((true && (!v_u24 k (vB_u15 k l_ web_).2.1 (vB_u15 k l_ web_).2.2.1 (vB_u15 k l_ web_).2.2.2.1 (vB_u15 k l_ web_).2.2.2.2 id_))) = true from c)] at h
      cases h; exact ⟨rfl, rfl⟩
     ·rw [cond_f (show ((true && (!v_u24 k (vB_u15 k l_ web_).2.1 (vB_u15 k l_ web_).2.2.1 (vB_u15 k l_ web_).2.2.2.1 (vB_u15 k l_ web_).2.2.2.2 id_))) = false from c)] at h
      cases h; exact ⟨rfl, rfl⟩
    ·rw [if_neg q] at h; cases h
   ·rw [cond_f (show (((vB_u15 k l_ web_).1 == (0 : Int) && id_ != (0 : Int))) = false from c)] at h
    by_cases q : (((vB_u15 k l_ web_).1 == (0 : Int) && id_ != (0 : Int)) = false)
    ·rw [if_pos q] at h
     refine ⟨(conjC q conj0), ?_⟩
     refine ⟨fun c => ?_, fun c => ?_⟩
     ·cases c
     cases h; exact ⟨rfl, rfl⟩
    ·rw [if_neg q] at h; cases h
  ·rw [if_neg q] at h; cases h
theorem cc_u14 (k : Nat) (l_ : List (T2).T) (web_ : T5.T) (id_ : Int) (h : (f_u14 k l_ web_ id_).isSome = true) : CC Tryz.prog 30 (args_u14 l_ web_ id_) (bin_u14 l_ web_ id_) (res_u14 (v_u14 k l_ web_ id_)) (bo_u14 l_ web_ id_ (v_u14 k l_ web_ id_)) := by
 cases e : f_u14 k l_ web_ id_ with
 | none => rw [e] at h; cases h
 | some r => rw [show v_u14 k l_ web_ id_ = r by simp [v_u14, e]]; exact of_u14 k l_ web_ id_ r e
theorem ccA_u14 (k : Nat) (l_ : List (T2).T) (web_ : T5.T) (id_ : Int) (h : (f_u14 k l_ web_ id_).isSome = true) (hb : (v_u14 k l_ web_ id_).isLeft = true) : CC Tryz.prog 30 (args_u14 l_ web_ id_) (bin_u14 l_ web_ id_) (resA_u14 (vA_u14 k l_ web_ id_)) (boA_u14 l_ web_ id_ (vA_u14 k l_ web_ id_)) := by
 have h1 := cc_u14 k l_ web_ id_ h
 unfold vA_u14
 cases e : v_u14 k l_ web_ id_ with
 | inl a => rw [e] at h1 hb; exact h1
 | inr a => rw [e] at h1 hb; cases hb
theorem ccB_u14 (k : Nat) (l_ : List (T2).T) (web_ : T5.T) (id_ : Int) (h : (f_u14 k l_ web_ id_).isSome = true) (hb : (v_u14 k l_ web_ id_).isLeft = false) : CC Tryz.prog 30 (args_u14 l_ web_ id_) (bin_u14 l_ web_ id_) (resB_u14 (vB_u14 k l_ web_ id_)) (boB_u14 l_ web_ id_ (vB_u14 k l_ web_ id_)) := by
 have h1 := cc_u14 k l_ web_ id_ h
 unfold vB_u14
 cases e : v_u14 k l_ web_ id_ with
 | inl a => rw [e] at h1 hb; cases hb
 | inr a => rw [e] at h1 hb; exact h1

end
end Go.AM
namespace Go.AM
open Go Go.Proofs Go.IntKind
set_option linter.unusedVariables false
noncomputable section
end
end Go.AM
namespace Go.AM
open Go Go.Proofs Go.IntKind
set_option linter.unusedVariables false
noncomputable section
abbrev R_u26 : Type := Int
def res_u26 (r : R_u26) : AV := .r (.v (.int .i64 r))
def bo_u26 (g_0 : Int) (g_1 : Int) (g_2 : List (T2).T) (g_3 : List ((I).T × (I).T)) (p_ : T4.T) (r : R_u26) : List (Nat × Blk) := [(0, .var 73 [.r (.v (.int .i64 g_0)), .r (.v (.int .i64 g_1)), .r (.ro T2 g_2), .own 1 0]), (0, .map false I I g_3)]
def args_u26 (g_0 : Int) (g_1 : Int) (g_2 : List (T2).T) (g_3 : List ((I).T × (I).T)) (p_ : T4.T) : List AV := [.ptr 0 0 0, .agg (rvs (enc T4 p_))]
def bin_u26 (g_0 : Int) (g_1 : Int) (g_2 : List (T2).T) (g_3 : List ((I).T × (I).T)) (p_ : T4.T) : List Blk := [.var 73 [.r (.v (.int .i64 g_0)), .r (.v (.int .i64 g_1)), .r (.ro T2 g_2), .own 1 0], .map false I I g_3]
def f_u26 (k : Nat) (g_0 : Int) (g_1 : Int) (g_2 : List (T2).T) (g_3 : List ((I).T × (I).T)) (p_ : T4.T) : Option R_u26 :=
 if ((f_u27 k g_0 g_1 g_2 g_3 p_.1).isSome = true) then
 bif (decide (p_.2.1 < (0 : Int)) || decide (p_.2.1 ≥ (v_u27 k g_0 g_1 g_2 g_3 p_.1).1)) then
 some 20
 else
 bif (decide (p_.2.2 < (0 : Int)) || decide (p_.2.2 ≥ (v_u27 k g_0 g_1 g_2 g_3 p_.1).2)) then
 some 21
 else
 some 0
 else none
def v_u26 (k : Nat) (g_0 : Int) (g_1 : Int) (g_2 : List (T2).T) (g_3 : List ((I).T × (I).T)) (p_ : T4.T) : R_u26 := (f_u26 k g_0 g_1 g_2 g_3 p_).getD 0
def K_u26 (k : Nat) : Calld := ⟨fun g xs => match g with
 | 42 => match xs with
  | [.ptr _ _ _, _] => some [true, false]
  | _ => none
 | _ => none, fun g xs bs => match g with
 | 42 => match xs, bs with
  | [.ptr 0 0 0, .r (.v (.int .i64 id_))], [.var 73 [.r (.v (.int .i64 g_0)), .r (.v (.int .i64 g_1)), .r (.ro tg_2_ qg_2), .own 1 0], .map false kg_3_ tg_3_ qg_3] => (castL tg_2_ T2 qg_2).bind fun g_2 => (castM kg_3_ tg_3_ I I qg_3).bind fun g_3 => some (.one (res_u27 (v_u27 k g_0 g_1 g_2 g_3 id_), bo_u27 g_0 g_1 g_2 g_3 id_ (v_u27 k g_0 g_1 g_2 g_3 id_)))
  | _, _ => none
 | _ => none⟩
theorem of_u26 (k : Nat) (g_0 : Int) (g_1 : Int) (g_2 : List (T2).T) (g_3 : List ((I).T × (I).T)) (p_ : T4.T) (r : R_u26) (h : f_u26 k g_0 g_1 g_2 g_3 p_ = some r) : CC Tryz.prog 31 (args_u26 g_0 g_1 g_2 g_3 p_) (bin_u26 g_0 g_1 g_2 g_3 p_) (res_u26 r) (bo_u26 g_0 g_1 g_2 g_3 p_ r) := by
 refine CC.of (fn := Tryz.f31) (by kernel_rfl) (by kernel_rfl) (by kernel_rfl) (by kernel_rfl) ?_
 unfold f_u26 at h
 refine Ev.tree hm (R := Rt) (K := (K_u26 k)) (l := []) (C := []) (E := [.autoB [4] true []]) (n := 1000) (T := .need [CC Tryz.prog 42 (args_u27 g_0 g_1 g_2 g_3 p_.1) (bin_u27 g_0 g_1 g_2 g_3 p_.1) (res_u27 (v_u27 k g_0 g_1 g_2 g_3 p_.1)) (bo_u27 g_0 g_1 g_2 g_3 p_.1 (v_u27 k g_0 g_1 g_2 g_3 p_.1))] (.test ((decide (p_.2.1 < (0 : Int)) || decide (p_.2.1 ≥ (v_u27 k g_0 g_1 g_2 g_3 p_.1).1))) (.leaf (res_u26 20) (bo_u26 g_0 g_1 g_2 g_3 p_ 20)) (.test ((decide (p_.2.2 < (0 : Int)) || decide (p_.2.2 ≥ (v_u27 k g_0 g_1 g_2 g_3 p_.1).2))) (.leaf (res_u26 21) (bo_u26 g_0 g_1 g_2 g_3 p_ 21)) (.leaf (res_u26 0) (bo_u26 g_0 g_1 g_2 g_3 p_ 0))))) (by kernel_rfl) ?_
 by_cases q : ((f_u27 k g_0 g_1 g_2 g_3 p_.1).isSome = true)
 ·rw [if_pos q] at h
  refine ⟨(conjC (cc_u27 k g_0 g_1 g_2 g_3 p_.1 q) conj0), ?_⟩
  refine ⟨fun c => ?_, fun c => ?_⟩
  ·rw [cond_t (show ((decide (p_.2.1 < (0 : Int)) || decide (p_.2.1 ≥ (v_u27 k g_0 g_1 g_2 g_3 p_.1).1))) = true from c)] at h
   cases h; exact ⟨rfl, rfl⟩
  ·rw [cond_f (show ((decide (p_.2.1 < (0 : Int)) || decide (p_.2.1 ≥ (v_u27 k g_0 g_1 g_2 g_3 p_.1).1))) = false from c)] at h
   refine ⟨fun c => ?_, fun c => ?_⟩
   ·rw [cond_t (show ((decide (p_.2.2 < (0 : Int)) || decide (p_.2.2 ≥ (v_u27 k g_0 g_1 g_2 g_3 p_.1).2))) = true from c)] at h
    cases h; exact ⟨rfl, rfl⟩
   ·rw [cond_f (show ((decide (p_.2.2 < (0 : Int)) || decide (p_.2.2 ≥ (v_u27 k g_0 g_1 g_2 g_3 p_.1).2))) = false from c)] at h
    cases h; exact ⟨rfl, rfl⟩
 ·rw [if_neg q] at h; cases h
theorem cc_u26 (k : Nat) (g_0 : Int) (g_1 : Int) (g_2 : List (T2).T) (g_3 : List ((I).T × (I).T)) (p_ : T4.T) (h : (f_u26 k g_0 g_1 g_2 g_3 p_).isSome = true) : CC Tryz.prog 31 (args_u26 g_0 g_1 g_2 g_3 p_) (bin_u26 g_0 g_1 g_2 g_3 p_) (res_u26 (v_u26 k g_0 g_1 g_2 g_3 p_)) (bo_u26 g_0 g_1 g_2 g_3 p_ (v_u26 k g_0 g_1 g_2 g_3 p_)) := by
 cases e : f_u26 k g_0 g_1 g_2 g_3 p_ with
 | none => rw [e] at h; cases h
 | some r => rw [show v_u26 k g_0 g_1 g_2 g_3 p_ = r by simp [v_u26, e]]; exact of_u26 k g_0 g_1 g_2 g_3 p_ r e

end
end Go.AM
namespace Go.AM
open Go Go.Proofs Go.IntKind
set_option linter.unusedVariables false
noncomputable section
abbrev R_u104 : Type := Bool
def res_u104 (r : R_u104) : AV := .r (.v (.bool r))
def bo_u104 (s_ : T9.T) (width_ : Int) (r : R_u104) : List (Nat × Blk) := []
def args_u104 (s_ : T9.T) (width_ : Int) : List AV := [.agg (rvs (enc T9 s_)), .r (.v (.int .i64 width_))]
def bin_u104 (s_ : T9.T) (width_ : Int) : List Blk := []
def f_u104 (k : Nat) (s_ : T9.T) (width_ : Int) : Option R_u104 :=
 some (decide (s_.1 ≥ 0) && decide (s_.2 ≥ 1) && decide (s_.1 ≤ width_) && decide (s_.2 ≤ i64.wrap (width_ - s_.1)))
def v_u104 (k : Nat) (s_ : T9.T) (width_ : Int) : R_u104 := (f_u104 k s_ width_).getD false
def K_u104 (k : Nat) : Calld := ⟨fun g xs => match g with
 | _ => none, fun g xs bs => match g with
 | _ => none⟩
theorem of_u104 (k : Nat) (s_ : T9.T) (width_ : Int) (r : R_u104) (h : f_u104 k s_ width_ = some r) : CC Tryz.prog 82 (args_u104 s_ width_) (bin_u104 s_ width_) (res_u104 r) (bo_u104 s_ width_ r) := by
 refine CC.of (fn := Tryz.f82) (by kernel_rfl) (by kernel_rfl) (by kernel_rfl) (by kernel_rfl) ?_
 unfold f_u104 at h
 refine Ev.tree hm (R := Rt) (K := (K_u104 k)) (l := []) (C := []) (E := [.autoB [4] true []]) (n := 1000) (T := .leaf (res_u104 (decide (s_.1 ≥ 0) && decide (s_.2 ≥ 1) && decide (s_.1 ≤ width_) && decide (s_.2 ≤ i64.wrap (width_ - s_.1)))) (bo_u104 s_ width_ (decide (s_.1 ≥ 0) && decide (s_.2 ≥ 1) && decide (s_.1 ≤ width_) && decide (s_.2 ≤ i64.wrap (width_ - s_.1))))) (by kernel_rfl) ?_
 cases h; exact ⟨rfl, rfl⟩
theorem cc_u104 (k : Nat) (s_ : T9.T) (width_ : Int) (h : (f_u104 k s_ width_).isSome = true) : CC Tryz.prog 82 (args_u104 s_ width_) (bin_u104 s_ width_) (res_u104 (v_u104 k s_ width_)) (bo_u104 s_ width_ (v_u104 k s_ width_)) := by
 cases e : f_u104 k s_ width_ with
 | none => rw [e] at h; cases h
 | some r => rw [show v_u104 k s_ width_ = r by simp [v_u104, e]]; exact of_u104 k s_ width_ r e

end
end Go.AM
namespace Go.AM
open Go Go.Proofs Go.IntKind
set_option linter.unusedVariables false
noncomputable section
abbrev R_u96 : Type := List (T0).T
def res_u96 (r : R_u96) : AV := .own 0 0
def bo_u96 (s_ : List (T0).T) (r : R_u96) : List (Nat × Blk) := [(0, .row 65 T0 r)]
def args_u96 (s_ : List (T0).T) : List AV := [.r (.ro T0 s_)]
def bin_u96 (s_ : List (T0).T) : List Blk := []
def f_u96 (k : Nat) (s_ : List (T0).T) : Option R_u96 := if s_.length * 24 ≤ 140737488355328 then some s_ else none
def v_u96 (k : Nat) (s_ : List (T0).T) : R_u96 := (f_u96 k s_).getD []
theorem of_u96 (k : Nat) (s_ : List (T0).T) (r : R_u96) (h : f_u96 k s_ = some r) : CC Tryz.prog 83 (args_u96 s_) (bin_u96 s_) (res_u96 r) (bo_u96 s_ r) := by
 unfold f_u96 at h
 by_cases q : s_.length * 24 ≤ 140737488355328
 ·rw [if_pos q] at h
  cases h
  exact cc_clone' (τ := T0) Tryz.clone_run (by kernel_rfl) Tryz.sizeOf65 ⟨Tryz.f83, _, Tryz.func83, rfl, by kernel_rfl⟩ s_ q
 ·rw [if_neg q] at h; cases h
theorem cc_u96 (k : Nat) (s_ : List (T0).T) (h : (f_u96 k s_).isSome = true) : CC Tryz.prog 83 (args_u96 s_) (bin_u96 s_) (res_u96 (v_u96 k s_)) (bo_u96 s_ (v_u96 k s_)) := by
 cases e : f_u96 k s_ with
 | none => rw [e] at h; cases h
 | some r => rw [show v_u96 k s_ = r by simp [v_u96, e]]; exact of_u96 k s_ r e

end
end Go.AM
namespace Go.AM
open Go Go.Proofs Go.IntKind
set_option linter.unusedVariables false
noncomputable section
abbrev RA_u103 : Type := Int × Int × Bool × Int
def resA_u103 (r : RA_u103) : AV := .tup [.agg [.r (.v (.int .i64 r.1)), .r (.v (.int .i64 r.2.1)), .r (.v (.bool r.2.2.1)), .r (.v (Value.slice none 0 0))], .r (.v (.int .i64 r.2.2.2))]
def boA_u103 (c_ : T1.T) (r : RA_u103) : List (Nat × Blk) := []
abbrev RB_u103 : Type := Int × Int × Bool × Int × List (T0).T
def resB_u103 (r : RB_u103) : AV := .tup [.agg [.r (.v (.int .i64 r.1)), .r (.v (.int .i64 r.2.1)), .r (.v (.bool r.2.2.1)), .own 0 0], .r (.v (.int .i64 r.2.2.2.1))]
def boB_u103 (c_ : T1.T) (r : RB_u103) : List (Nat × Blk) := [(0, .row 65 T0 r.2.2.2.2)]
abbrev R_u103 : Type := RA_u103 ⊕ RB_u103
def res_u103 (r : R_u103) : AV := match r with
 | .inl a => resA_u103 a
 | .inr a => resB_u103 a
def bo_u103 (c_ : T1.T) (r : R_u103) : List (Nat × Blk) := match r with
 | .inl a => boA_u103 c_ a
 | .inr a => boB_u103 c_ a
def args_u103 (c_ : T1.T) : List AV := [.agg (rvs (enc T1 c_))]
def bin_u103 (c_ : T1.T) : List Blk := []
def f_u103 (k : Nat) (c_ : T1.T) : Option R_u103 :=
 if ((f_u104 k (c_.1, c_.2.1) 12000).isSome = true) then
 bif (!v_u104 k (c_.1, c_.2.1) (12000 : Int)) then
 some ((.inl ((0, 0, false, 1))))
 else
 if ((f_u32 k c_.2.2.2).isSome = true) then
 bif (v_u32 k c_.2.2.2 != (0 : Int)) then
 some ((.inl ((0, 0, false, v_u32 k c_.2.2.2))))
 else
 if ((f_u96 k c_.2.2.2).isSome = true) then
 some ((.inr ((c_.1, c_.2.1, !c_.2.2.1, 0, v_u96 k c_.2.2.2))))
 else none
 else none
 else none
def v_u103 (k : Nat) (c_ : T1.T) : R_u103 := (f_u103 k c_).getD (.inl ((0, 0, false, 0)))
def vA_u103 (k : Nat) (c_ : T1.T) : RA_u103 := lft ((0, 0, false, 0)) (v_u103 k c_)
def vB_u103 (k : Nat) (c_ : T1.T) : RB_u103 := rgt ((0, 0, false, 0, [])) (v_u103 k c_)
def K_u103 (k : Nat) : Calld := ⟨fun g xs => match g with
 | 68 => match xs with
  | [_] => some [false]
  | _ => none
 | 82 => match xs with
  | [_, _] => some [false, false]
  | _ => none
 | 83 => match xs with
  | [_] => some [false]
  | _ => none
 | _ => none, fun g xs bs => match g with
 | 68 => match xs, bs with
  | [.r (.ro tm__ qm_)], [] => (castL tm__ T0 qm_).bind fun m_ => some (.one (res_u32 (v_u32 k m_), bo_u32 m_ (v_u32 k m_)))
  | _, _ => none
 | 82 => match xs, bs with
  | [.agg qs_, .r (.v (.int .i64 width_))], [] => (decS [] T9 qs_).bind fun s_ => some (.one (res_u104 (v_u104 k s_ width_), bo_u104 s_ width_ (v_u104 k s_ width_)))
  | _, _ => none
 | 83 => match xs, bs with
  | [.r (.ro ts__ qs_)], [] => (castL ts__ T0 qs_).bind fun s_ => some (.one (res_u96 (v_u96 k s_), bo_u96 s_ (v_u96 k s_)))
  | _, _ => none
 | _ => none⟩
theorem of_u103 (k : Nat) (c_ : T1.T) (r : R_u103) (h : f_u103 k c_ = some r) : CC Tryz.prog 66 (args_u103 c_) (bin_u103 c_) (res_u103 r) (bo_u103 c_ r) := by
 refine CC.of (fn := Tryz.f66) (by kernel_rfl) (by kernel_rfl) (by kernel_rfl) (by kernel_rfl) ?_
 unfold f_u103 at h
 refine Ev.tree hm (R := Rt) (K := (K_u103 k)) (l := []) (C := []) (E := [.autoB [2, 3] true []]) (n := 1000) (T := .need [CC Tryz.prog 82 (args_u104 (c_.1, c_.2.1) 12000) (bin_u104 (c_.1, c_.2.1) 12000) (res_u104 (v_u104 k (c_.1, c_.2.1) 12000)) (bo_u104 (c_.1, c_.2.1) 12000 (v_u104 k (c_.1, c_.2.1) 12000))] (.test ((!v_u104 k (c_.1, c_.2.1) (12000 : Int))) (.leaf (resA_u103 ((0, 0, false, 1))) (boA_u103 c_ ((0, 0, false, 1)))) (.need [CC Tryz.prog 68 (args_u32 c_.2.2.2) (bin_u32 c_.2.2.2) (res_u32 (v_u32 k c_.2.2.2)) (bo_u32 c_.2.2.2 (v_u32 k c_.2.2.2))] (.test ((v_u32 k c_.2.2.2 != (0 : Int))) (.leaf (resA_u103 ((0, 0, false, v_u32 k c_.2.2.2))) (boA_u103 c_ ((0, 0, false, v_u32 k c_.2.2.2)))) (.need [CC Tryz.prog 83 (args_u96 c_.2.2.2) (bin_u96 c_.2.2.2) (res_u96 (v_u96 k c_.2.2.2)) (bo_u96 c_.2.2.2 (v_u96 k c_.2.2.2))] (.leaf (resB_u103 ((c_.1, c_.2.1, !c_.2.2.1, 0, v_u96 k c_.2.2.2))) (boB_u103 c_ ((c_.1, c_.2.1, !c_.2.2.1, 0, v_u96 k c_.2.2.2))))))))) (by kernel_rfl) ?_
 by_cases q : ((f_u104 k (c_.1, c_.2.1) 12000).isSome = true)
 ·rw [if_pos q] at h
  refine ⟨(conjC (cc_u104 k (c_.1, c_.2.1) 12000 q) conj0), ?_⟩
  refine ⟨fun c => ?_, fun c => ?_⟩
  ·rw [cond_t (show ((!v_u104 k (c_.1, c_.2.1) (12000 : Int))) = true from c)] at h
   cases h; exact ⟨rfl, rfl⟩
  ·rw [cond_f (show ((!v_u104 k (c_.1, c_.2.1) (12000 : Int))) = false from c)] at h
   by_cases q : ((f_u32 k c_.2.2.2).isSome = true)
   ·rw [if_pos q] at h
    refine ⟨(conjC (cc_u32 k c_.2.2.2 q) conj0), ?_⟩
    refine ⟨fun c => ?_, fun c => ?_⟩
    ·rw [cond_t (show ((v_u32 k c_.2.2.2 != (0 : Int))) = true from c)] at h
     cases h; exact ⟨rfl, rfl⟩
    ·rw [cond_f (show ((v_u32 k c_.2.2.2 != (0 : Int))) = false from c)] at h
     by_cases q : ((f_u96 k c_.2.2.2).isSome = true)
     ·rw [if_pos q] at h
      refine ⟨(conjC (cc_u96 k c_.2.2.2 q) conj0), ?_⟩
      cases h; exact ⟨rfl, rfl⟩
     ·rw [if_neg q] at h; cases h
   ·rw [if_neg q] at h; cases h
 ·rw [if_neg q] at h; cases h
theorem cc_u103 (k : Nat) (c_ : T1.T) (h : (f_u103 k c_).isSome = true) : CC Tryz.prog 66 (args_u103 c_) (bin_u103 c_) (res_u103 (v_u103 k c_)) (bo_u103 c_ (v_u103 k c_)) := by
 cases e : f_u103 k c_ with
 | none => rw [e] at h; cases h
 | some r => rw [show v_u103 k c_ = r by simp [v_u103, e]]; exact of_u103 k c_ r e
theorem ccA_u103 (k : Nat) (c_ : T1.T) (h : (f_u103 k c_).isSome = true) (hb : (v_u103 k c_).isLeft = true) : CC Tryz.prog 66 (args_u103 c_) (bin_u103 c_) (resA_u103 (vA_u103 k c_)) (boA_u103 c_ (vA_u103 k c_)) := by
 have h1 := cc_u103 k c_ h
 unfold vA_u103
 cases e : v_u103 k c_ with
 | inl a => rw [e] at h1 hb; exact h1
 | inr a => rw [e] at h1 hb; cases hb
theorem ccB_u103 (k : Nat) (c_ : T1.T) (h : (f_u103 k c_).isSome = true) (hb : (v_u103 k c_).isLeft = false) : CC Tryz.prog 66 (args_u103 c_) (bin_u103 c_) (resB_u103 (vB_u103 k c_)) (boB_u103 c_ (vB_u103 k c_)) := by
 have h1 := cc_u103 k c_ h
 unfold vB_u103
 cases e : v_u103 k c_ with
 | inl a => rw [e] at h1 hb; cases hb
 | inr a => rw [e] at h1 hb; exact h1

end
end Go.AM
namespace Go.AM
open Go Go.Proofs Go.IntKind
set_option linter.unusedVariables false
noncomputable section
abbrev R_u102 : Type := Int × Int × Int
def res_u102 (r : R_u102) : AV := .tup [.r (.v (.int .i64 r.1)), .r (.v (.int .i64 r.2.1)), .r (.v (.int .i64 r.2.2))]
def bo_u102 (c_ : T1.T) (x_ : Int) (y_ : Int) (r : R_u102) : List (Nat × Blk) := []
def args_u102 (c_ : T1.T) (x_ : Int) (y_ : Int) : List AV := [.agg (rvs (enc T1 c_)), .r (.v (.int .i64 x_)), .r (.v (.int .i64 y_))]
def bin_u102 (c_ : T1.T) (x_ : Int) (y_ : Int) : List Blk := []
def f_u102 (k : Nat) (c_ : T1.T) (x_ : Int) (y_ : Int) : Option R_u102 :=
 bif (Sum.isLeft (v_u103 k c_)) then
 if ((f_u103 k c_).isSome = true) then
 bif ((vA_u103 k c_).2.2.2 != (0 : Int)) then
 some ((0, 0, (vA_u103 k c_).2.2.2))
 else
 bif (decide (x_ < (0 : Int)) || decide (x_ ≥ c_.2.1)) then
 some ((0, 0, 20))
 else
 if ((f_u30 k c_.2.2.2 y_).isSome = true) then
 bif ((v_u30 k c_.2.2.2 y_).2 != (0 : Int)) then
 some ((0, 0, (v_u30 k c_.2.2.2 y_).2))
 else
 bif c_.2.2.1 then
 some ((i64.wrap (c_.1 + i64.wrap (i64.wrap (c_.2.1 - 1) - x_)), (v_u30 k c_.2.2.2 y_).1, 0))
 else
 some ((i64.wrap (c_.1 + x_), (v_u30 k c_.2.2.2 y_).1, 0))
 else none
 else none
 else
 if ((f_u103 k c_).isSome = true) then
 bif ((vB_u103 k c_).2.2.2.1 != (0 : Int)) then
 some ((0, 0, (vB_u103 k c_).2.2.2.1))
 else
 bif (decide (x_ < (0 : Int)) || decide (x_ ≥ c_.2.1)) then
 some ((0, 0, 20))
 else
 if ((f_u30 k c_.2.2.2 y_).isSome = true) then
 bif ((v_u30 k c_.2.2.2 y_).2 != (0 : Int)) then
 some ((0, 0, (v_u30 k c_.2.2.2 y_).2))
 else
 bif c_.2.2.1 then
 some ((i64.wrap (c_.1 + i64.wrap (i64.wrap (c_.2.1 - 1) - x_)), (v_u30 k c_.2.2.2 y_).1, 0))
 else
 some ((i64.wrap (c_.1 + x_), (v_u30 k c_.2.2.2 y_).1, 0))
 else none
 else none
def v_u102 (k : Nat) (c_ : T1.T) (x_ : Int) (y_ : Int) : R_u102 := (f_u102 k c_ x_ y_).getD (0, 0, 0)
def K_u102 (k : Nat) : Calld := ⟨fun g xs => match g with
 | 67 => match xs with
  | [_, _] => some [false, false]
  | _ => none
 | 66 => match xs with
  | [_] => some [false]
  | _ => none
 | _ => none, fun g xs bs => match g with
 | 67 => match xs, bs with
  | [.r (.ro tm__ qm_), .r (.v (.int .i64 x_))], [] => (castL tm__ T0 qm_).bind fun m_ => some (.one (res_u30 (v_u30 k m_ x_), bo_u30 m_ x_ (v_u30 k m_ x_)))
  | _, _ => none
 | 66 => match xs, bs with
  | [.agg qc_], [] => (decS [] T1 qc_).bind fun c_ => some (.two (v_u103 k c_).isLeft (resA_u103 (vA_u103 k c_), boA_u103 c_ (vA_u103 k c_)) (resB_u103 (vB_u103 k c_), boB_u103 c_ (vB_u103 k c_)))
  | _, _ => none
 | _ => none⟩
theorem of_u102 (k : Nat) (c_ : T1.T) (x_ : Int) (y_ : Int) (r : R_u102) (h : f_u102 k c_ x_ y_ = some r) : CC Tryz.prog 50 (args_u102 c_ x_ y_) (bin_u102 c_ x_ y_) (res_u102 r) (bo_u102 c_ x_ y_ r) := by
 refine CC.of (fn := Tryz.f50) (by kernel_rfl) (by kernel_rfl) (by kernel_rfl) (by kernel_rfl) ?_
 unfold f_u102 at h
 refine Ev.tree hm (R := Rt) (K := (K_u102 k)) (l := []) (C := []) (E := [.autoB [6, 7, 8] true []]) (n := 1000) (T := .test ((Sum.isLeft (v_u103 k c_))) (.need [CC Tryz.prog 66 (args_u103 c_) (bin_u103 c_) (resA_u103 (vA_u103 k c_)) (boA_u103 c_ (vA_u103 k c_))] (.test (((vA_u103 k c_).2.2.2 != (0 : Int))) (.leaf (res_u102 ((0, 0, (vA_u103 k c_).2.2.2))) (bo_u102 c_ x_ y_ ((0, 0, (vA_u103 k c_).2.2.2)))) (.test ((decide (x_ < (0 : Int)) || decide (x_ ≥ c_.2.1))) (.leaf (res_u102 ((0, 0, 20))) (bo_u102 c_ x_ y_ ((0, 0, 20)))) (.need [CC Tryz.prog 67 (args_u30 c_.2.2.2 y_) (bin_u30 c_.2.2.2 y_) (res_u30 (v_u30 k c_.2.2.2 y_)) (bo_u30 c_.2.2.2 y_ (v_u30 k c_.2.2.2 y_))] (.test (((v_u30 k c_.2.2.2 y_).2 != (0 : Int))) (.leaf (res_u102 ((0, 0, (v_u30 k c_.2.2.2 y_).2))) (bo_u102 c_ x_ y_ ((0, 0, (v_u30 k c_.2.2.2 y_).2)))) (.test (c_.2.2.1) (.leaf (res_u102 ((i64.wrap (c_.1 + i64.wrap (i64.wrap (c_.2.1 - 1) - x_)), (v_u30 k c_.2.2.2 y_).1, 0))) (bo_u102 c_ x_ y_ ((i64.wrap (c_.1 + i64.wrap (i64.wrap (c_.2.1 - 1) - x_)), (v_u30 k c_.2.2.2 y_).1, 0)))) (.leaf (res_u102 ((i64.wrap (c_.1 + x_), (v_u30 k c_.2.2.2 y_).1, 0))) (bo_u102 c_ x_ y_ ((i64.wrap (c_.1 + x_), (v_u30 k c_.2.2.2 y_).1, 0)))))))))) (.need [CC Tryz.prog 66 (args_u103 c_) (bin_u103 c_) (resB_u103 (vB_u103 k c_)) (boB_u103 c_ (vB_u103 k c_))] (.test (((vB_u103 k c_).2.2.2.1 != (0 : Int))) (.leaf (res_u102 ((0, 0, (vB_u103 k c_).2.2.2.1))) (bo_u102 c_ x_ y_ ((0, 0, (vB_u103 k c_).2.2.2.1)))) (.test ((decide (x_ < (0 : Int)) || decide (x_ ≥ c_.2.1))) (.leaf (res_u102 ((0, 0, 20))) (bo_u102 c_ x_ y_ ((0, 0, 20)))) (.need [CC Tryz.prog 67 (args_u30 c_.2.2.2 y_) (bin_u30 c_.2.2.2 y_) (res_u30 (v_u30 k c_.2.2.2 y_)) (bo_u30 c_.2.2.2 y_ (v_u30 k c_.2.2.2 y_))] (.test (((v_u30 k c_.2.2.2 y_).2 != (0 : Int))) (.leaf (res_u102 ((0, 0, (v_u30 k c_.2.2.2 y_).2))) (bo_u102 c_ x_ y_ ((0, 0, (v_u30 k c_.2.2.2 y_).2)))) (.test (c_.2.2.1) (.leaf (res_u102 ((i64.wrap (c_.1 + i64.wrap (i64.wrap (c_.2.1 - 1) - x_)), (v_u30 k c_.2.2.2 y_).1, 0))) (bo_u102 c_ x_ y_ ((i64.wrap (c_.1 + i64.wrap (i64.wrap (c_.2.1 - 1) - x_)), (v_u30 k c_.2.2.2 y_).1, 0)))) (.leaf (res_u102 ((i64.wrap (c_.1 + x_), (v_u30 k c_.2.2.2 y_).1, 0))) (bo_u102 c_ x_ y_ ((i64.wrap (c_.1 + x_), (v_u30 k c_.2.2.2 y_).1, 0))))))))))) (by kernel_rfl) ?_
 refine ⟨fun c => ?_, fun c => ?_⟩
 ·rw [cond_t (show ((Sum.isLeft (v_u103 k c_))) = true from c)] at h
  by_cases q : ((f_u103 k c_).isSome = true)
  ·rw [if_pos q] at h
   refine ⟨(conjC (ccA_u103 k c_ q (by assumption)) conj0), ?_⟩
   refine ⟨fun c => ?_, fun c => ?_⟩
   ·rw [cond_t (show (((vA_u103 k c_).2.2.2 != (0 : Int))) = true from c)] at h
    cases h; exact ⟨rfl, rfl⟩
   ·rw [cond_f (show (((vA_u103 k c_).2.2.2 != (0 : Int))) = false from c)] at h
    refine ⟨fun c => ?_, fun c => ?_⟩
    ·rw [cond_t (show ((decide (x_ < (0 : Int)) || decide (x_ ≥ c_.2.1))) = true from c)] at h
     cases h; exact ⟨rfl, rfl⟩
    ·rw [cond_f (show ((decide (x_ < (0 : Int)) || decide (x_ ≥ c_.2.1))) = false from c)] at h
     by_cases q : ((f_u30 k c_.2.2.2 y_).isSome = true)
     ·rw [if_pos q] at h
      refine ⟨(conjC (cc_u30 k c_.2.2.2 y_ q) conj0), ?_⟩
      refine ⟨fun c => ?_, fun c => ?_⟩
      ·rw [cond_t (show (((v_u30 k c_.2.2.2 y_).2 != (0 : Int))) = true from c)] at h
       cases h; exact ⟨rfl, rfl⟩
      ·rw [cond_f (show (((v_u30 k c_.2.2.2 y_).2 != (0 : Int))) = false from c)] at h
       refine ⟨fun c => ?_, fun c => ?_⟩
       ·rw [cond_t (show c_.2.2.1 = true from c)] at h
        cases h; exact ⟨rfl, rfl⟩
       ·rw [cond_f (show c_.2.2.1 = false from c)] at h
        cases h; exact ⟨rfl, rfl⟩
     ·rw [if_neg q] at h; cases h
  ·rw [if_neg q] at h; cases h
 ·rw [cond_f (show ((Sum.isLeft (v_u103 k c_))) = false from c)] at h
  by_cases q : ((f_u103 k c_).isSome = true)
  ·rw [if_pos q] at h
   refine ⟨(conjC (ccB_u103 k c_ q (by assumption)) conj0), ?_⟩
   refine ⟨fun c => ?_, fun c => ?_⟩
   ·rw [cond_t (show (((vB_u103 k c_).2.2.2.1 != (0 : Int))) = true from c)] at h
    cases h; exact ⟨rfl, rfl⟩
   ·rw [cond_f (show (((vB_u103 k c_).2.2.2.1 != (0 : Int))) = false from c)] at h
    refine ⟨fun c => ?_, fun c => ?_⟩
    ·rw [cond_t (show ((decide (x_ < (0 : Int)) || decide (x_ ≥ c_.2.1))) = true from c)] at h
     cases h; exact ⟨rfl, rfl⟩
    ·rw [cond_f (show ((decide (x_ < (0 : Int)) || decide (x_ ≥ c_.2.1))) = false from c)] at h
     by_cases q : ((f_u30 k c_.2.2.2 y_).isSome = true)
     ·rw [if_pos q] at h
      refine ⟨(conjC (cc_u30 k c_.2.2.2 y_ q) conj0), ?_⟩
      refine ⟨fun c => ?_, fun c => ?_⟩
      ·rw [cond_t (show (((v_u30 k c_.2.2.2 y_).2 != (0 : Int))) = true from c)] at h
       cases h; exact ⟨rfl, rfl⟩
      ·rw [cond_f (show (((v_u30 k c_.2.2.2 y_).2 != (0 : Int))) = false from c)] at h
       refine ⟨fun c => ?_, fun c => ?_⟩
       ·rw [cond_t (show c_.2.2.1 = true from c)] at h
        cases h; exact ⟨rfl, rfl⟩
       ·rw [cond_f (show c_.2.2.1 = false from c)] at h
        cases h; exact ⟨rfl, rfl⟩
     ·rw [if_neg q] at h; cases h
  ·rw [if_neg q] at h; cases h
theorem cc_u102 (k : Nat) (c_ : T1.T) (x_ : Int) (y_ : Int) (h : (f_u102 k c_ x_ y_).isSome = true) : CC Tryz.prog 50 (args_u102 c_ x_ y_) (bin_u102 c_ x_ y_) (res_u102 (v_u102 k c_ x_ y_)) (bo_u102 c_ x_ y_ (v_u102 k c_ x_ y_)) := by
 cases e : f_u102 k c_ x_ y_ with
 | none => rw [e] at h; cases h
 | some r => rw [show v_u102 k c_ x_ y_ = r by simp [v_u102, e]]; exact of_u102 k c_ x_ y_ r e

end
end Go.AM
namespace Go.AM
open Go Go.Proofs Go.IntKind
set_option linter.unusedVariables false
noncomputable section
abbrev R_u17 : Type := T4.T
def res_u17 (r : R_u17) : AV := .agg (rvs (enc T4 r))
def bo_u17 (r_ : T2.T) (p_ : T4.T) (r : R_u17) : List (Nat × Blk) := []
def args_u17 (r_ : T2.T) (p_ : T4.T) : List AV := [.agg (rvs (enc T2 r_)), .agg (rvs (enc T4 p_))]
def bin_u17 (r_ : T2.T) (p_ : T4.T) : List Blk := []
def f_u17 (k : Nat) (r_ : T2.T) (p_ : T4.T) : Option R_u17 :=
 if ((f_u102 k r_.2.2 p_.2.1 p_.2.2).isSome = true) then
 some ((r_.2.1, ((v_u102 k r_.2.2 p_.2.1 p_.2.2).1, (v_u102 k r_.2.2 p_.2.1 p_.2.2).2.1)))
 else none
def v_u17 (k : Nat) (r_ : T2.T) (p_ : T4.T) : R_u17 := (f_u17 k r_ p_).getD (T4).dflt
def K_u17 (k : Nat) : Calld := ⟨fun g xs => match g with
 | 50 => match xs with
  | [_, _, _] => some [false, false, false]
  | _ => none
 | _ => none, fun g xs bs => match g with
 | 50 => match xs, bs with
  | [.agg qc_, .r (.v (.int .i64 x_)), .r (.v (.int .i64 y_))], [] => (decS [] T1 qc_).bind fun c_ => some (.one (res_u102 (v_u102 k c_ x_ y_), bo_u102 c_ x_ y_ (v_u102 k c_ x_ y_)))
  | _, _ => none
 | _ => none⟩
theorem of_u17 (k : Nat) (r_ : T2.T) (p_ : T4.T) (r : R_u17) (h : f_u17 k r_ p_ = some r) : CC Tryz.prog 32 (args_u17 r_ p_) (bin_u17 r_ p_) (res_u17 r) (bo_u17 r_ p_ r) := by
 refine CC.of (fn := Tryz.f32) (by kernel_rfl) (by kernel_rfl) (by kernel_rfl) (by kernel_rfl) ?_
 unfold f_u17 at h
 refine Ev.tree hm (R := Rt) (K := (K_u17 k)) (l := []) (C := []) (E := [.autoB [4] true []]) (n := 1000) (T := .need [CC Tryz.prog 50 (args_u102 r_.2.2 p_.2.1 p_.2.2) (bin_u102 r_.2.2 p_.2.1 p_.2.2) (res_u102 (v_u102 k r_.2.2 p_.2.1 p_.2.2)) (bo_u102 r_.2.2 p_.2.1 p_.2.2 (v_u102 k r_.2.2 p_.2.1 p_.2.2))] (.leaf (res_u17 ((r_.2.1, ((v_u102 k r_.2.2 p_.2.1 p_.2.2).1, (v_u102 k r_.2.2 p_.2.1 p_.2.2).2.1)))) (bo_u17 r_ p_ ((r_.2.1, ((v_u102 k r_.2.2 p_.2.1 p_.2.2).1, (v_u102 k r_.2.2 p_.2.1 p_.2.2).2.1)))))) (by kernel_rfl) ?_
 by_cases q : ((f_u102 k r_.2.2 p_.2.1 p_.2.2).isSome = true)
 ·rw [if_pos q] at h
  refine ⟨(conjC (cc_u102 k r_.2.2 p_.2.1 p_.2.2 q) conj0), ?_⟩
  cases h; exact ⟨rfl, rfl⟩
 ·rw [if_neg q] at h; cases h
theorem cc_u17 (k : Nat) (r_ : T2.T) (p_ : T4.T) (h : (f_u17 k r_ p_).isSome = true) : CC Tryz.prog 32 (args_u17 r_ p_) (bin_u17 r_ p_) (res_u17 (v_u17 k r_ p_)) (bo_u17 r_ p_ (v_u17 k r_ p_)) := by
 cases e : f_u17 k r_ p_ with
 | none => rw [e] at h; cases h
 | some r => rw [show v_u17 k r_ p_ = r by simp [v_u17, e]]; exact of_u17 k r_ p_ r e

end
end Go.AM
namespace Go.AM
open Go Go.Proofs Go.IntKind
set_option linter.unusedVariables false
noncomputable section
abbrev R_u10 : Type := T4.T × Int
def res_u10 (r : R_u10) : AV := .tup [.agg (rvs (enc T4 r.1)), .r (.v (.int .i64 r.2))]
def bo_u10 (l_ : List (T2).T) (web_ : T5.T) (p_ : T4.T) (r : R_u10) : List (Nat × Blk) := []
def args_u10 (l_ : List (T2).T) (web_ : T5.T) (p_ : T4.T) : List AV := [.r (.ro T2 l_), .agg (rvs (enc T5 web_)), .agg (rvs (enc T4 p_))]
def bin_u10 (l_ : List (T2).T) (web_ : T5.T) (p_ : T4.T) : List Blk := []
def f_u10 (k : Nat) (l_ : List (T2).T) (web_ : T5.T) (p_ : T4.T) : Option R_u10 :=
 bif (Sum.isLeft (v_u14 k l_ web_ p_.1)) then
 if ((f_u14 k l_ web_ p_.1).isSome = true) then
 bif (vA_u14 k l_ web_ p_.1 != (0 : Int)) then
 some (((0, (0, 0)), vA_u14 k l_ web_ p_.1))
 else
 bif (p_.1 == (0 : Int)) then
 some (((0, (0, 0)), 7))
 else
 none
 else none
 else
 if ((f_u14 k l_ web_ p_.1).isSome = true) then
 bif ((vB_u14 k l_ web_ p_.1).1 != (0 : Int)) then
 some (((0, (0, 0)), (vB_u14 k l_ web_ p_.1).1))
 else
 bif (p_.1 == (0 : Int)) then
 some (((0, (0, 0)), 7))
 else
 if ((f_u26 k (vB_u14 k l_ web_ p_.1).2.1 (vB_u14 k l_ web_ p_.1).2.2.1 (vB_u14 k l_ web_ p_.1).2.2.2.1 (vB_u14 k l_ web_ p_.1).2.2.2.2 p_).isSome = true) then
 bif (v_u26 k (vB_u14 k l_ web_ p_.1).2.1 (vB_u14 k l_ web_ p_.1).2.2.1 (vB_u14 k l_ web_ p_.1).2.2.2.1 (vB_u14 k l_ web_ p_.1).2.2.2.2 p_ != (0 : Int)) then
 some (((0, (0, 0)), v_u26 k (vB_u14 k l_ web_ p_.1).2.1 (vB_u14 k l_ web_ p_.1).2.2.1 (vB_u14 k l_ web_ p_.1).2.2.2.1 (vB_u14 k l_ web_ p_.1).2.2.2.2 p_))
 else
 if ((0 : Int) ≤ (mget I p_.1 (vB_u14 k l_ web_ p_.1).2.2.2.2).getD (0 : Int)) ∧ ((mget I p_.1 (vB_u14 k l_ web_ p_.1).2.2.2.2).getD (0 : Int) < (↑ (vB_u14 k l_ web_ p_.1).2.2.2.1.length : Int)) ∧ ((f_u17 k ((vB_u14 k l_ web_ p_.1).2.2.2.1.getD (Int.toNat ((mget I p_.1 (vB_u14 k l_ web_ p_.1).2.2.2.2).getD 0)) T2.dflt) p_).isSome = true) then
 some ((v_u17 k ((vB_u14 k l_ web_ p_.1).2.2.2.1.getD (Int.toNat ((mget I p_.1 (vB_u14 k l_ web_ p_.1).2.2.2.2).getD 0)) T2.dflt) p_, 0))
 else none
 else none
 else none
def v_u10 (k : Nat) (l_ : List (T2).T) (web_ : T5.T) (p_ : T4.T) : R_u10 := (f_u10 k l_ web_ p_).getD ((T4).dflt, 0)
def K_u10 (k : Nat) : Calld := ⟨fun g xs => match g with
 | 30 => match xs with
  | [_, _, _] => some [false, false, false]
  | _ => none
 | 31 => match xs with
  | [.ptr _ _ _, _] => some [true, false]
  | _ => none
 | 32 => match xs with
  | [_, _] => some [false, false]
  | _ => none
 | _ => none, fun g xs bs => match g with
 | 30 => match xs, bs with
  | [.r (.ro tl__ ql_), .agg qweb_, .r (.v (.int .i64 id_))], [] => (castL tl__ T2 ql_).bind fun l_ => (decS [] T5 qweb_).bind fun web_ => some (.two (v_u14 k l_ web_ id_).isLeft (resA_u14 (vA_u14 k l_ web_ id_), boA_u14 l_ web_ id_ (vA_u14 k l_ web_ id_)) (resB_u14 (vB_u14 k l_ web_ id_), boB_u14 l_ web_ id_ (vB_u14 k l_ web_ id_)))
  | _, _ => none
 | 31 => match xs, bs with
  | [.ptr 0 0 0, .agg qp_], [.var 73 [.r (.v (.int .i64 g_0)), .r (.v (.int .i64 g_1)), .r (.ro tg_2_ qg_2), .own 1 0], .map false kg_3_ tg_3_ qg_3] => (decS [] T4 qp_).bind fun p_ => (castL tg_2_ T2 qg_2).bind fun g_2 => (castM kg_3_ tg_3_ I I qg_3).bind fun g_3 => some (.one (res_u26 (v_u26 k g_0 g_1 g_2 g_3 p_), bo_u26 g_0 g_1 g_2 g_3 p_ (v_u26 k g_0 g_1 g_2 g_3 p_)))
  | _, _ => none
 | 32 => match xs, bs with
  | [.agg qr_, .agg qp_], [] => (decS [] T2 qr_).bind fun r_ => (decS [] T4 qp_).bind fun p_ => some (.one (res_u17 (v_u17 k r_ p_), bo_u17 r_ p_ (v_u17 k r_ p_)))
  | _, _ => none
 | _ => none⟩
theorem of_u10 (k : Nat) (l_ : List (T2).T) (web_ : T5.T) (p_ : T4.T) (r : R_u10) (h : f_u10 k l_ web_ p_ = some r) : CC Tryz.prog 10 (args_u10 l_ web_ p_) (bin_u10 l_ web_ p_) (res_u10 r) (bo_u10 l_ web_ p_ r) := by
 refine CC.of (fn := Tryz.f10) (by kernel_rfl) (by kernel_rfl) (by kernel_rfl) (by kernel_rfl) ?_
 unfold f_u10 at h
 refine Ev.tree hm (R := Rt) (K := (K_u10 k)) (l := []) (C := []) (E := [.autoB [6, 7] true []]) (n := 1000) (T := .test ((Sum.isLeft (v_u14 k l_ web_ p_.1))) (.need [CC Tryz.prog 30 (args_u14 l_ web_ p_.1) (bin_u14 l_ web_ p_.1) (resA_u14 (vA_u14 k l_ web_ p_.1)) (boA_u14 l_ web_ p_.1 (vA_u14 k l_ web_ p_.1))] (.test ((vA_u14 k l_ web_ p_.1 != (0 : Int))) (.leaf (res_u10 (((0, (0, 0)), vA_u14 k l_ web_ p_.1))) (bo_u10 l_ web_ p_ (((0, (0, 0)), vA_u14 k l_ web_ p_.1)))) (.test ((p_.1 == (0 : Int))) (.leaf (res_u10 (((0, (0, 0)), 7))) (bo_u10 l_ web_ p_ (((0, (0, 0)), 7)))) (.stuck 2002)))) (.need [CC Tryz.prog 30 (args_u14 l_ web_ p_.1) (bin_u14 l_ web_ p_.1) (resB_u14 (vB_u14 k l_ web_ p_.1)) (boB_u14 l_ web_ p_.1 (vB_u14 k l_ web_ p_.1))] (.test (((vB_u14 k l_ web_ p_.1).1 != (0 : Int))) (.leaf (res_u10 (((0, (0, 0)), (vB_u14 k l_ web_ p_.1).1))) (bo_u10 l_ web_ p_ (((0, (0, 0)), (vB_u14 k l_ web_ p_.1).1)))) (.test ((p_.1 == (0 : Int))) (.leaf (res_u10 (((0, (0, 0)), 7))) (bo_u10 l_ web_ p_ (((0, (0, 0)), 7)))) (.need [CC Tryz.prog 31 (args_u26 (vB_u14 k l_ web_ p_.1).2.1 (vB_u14 k l_ web_ p_.1).2.2.1 (vB_u14 k l_ web_ p_.1).2.2.2.1 (vB_u14 k l_ web_ p_.1).2.2.2.2 p_) (bin_u26 (vB_u14 k l_ web_ p_.1).2.1 (vB_u14 k l_ web_ p_.1).2.2.1 (vB_u14 k l_ web_ p_.1).2.2.2.1 (vB_u14 k l_ web_ p_.1).2.2.2.2 p_) (res_u26 (v_u26 k (vB_u14 k l_ web_ p_.1).2.1 (vB_u14 k l_ web_ p_.1).2.2.1 (vB_u14 k l_ web_ p_.1).2.2.2.1 (vB_u14 k l_ web_ p_.1).2.2.2.2 p_)) (bo_u26 (vB_u14 k l_ web_ p_.1).2.1 (vB_u14 k l_ web_ p_.1).2.2.1 (vB_u14 k l_ web_ p_.1).2.2.2.1 (vB_u14 k l_ web_ p_.1).2.2.2.2 p_ (v_u26 k (vB_u14 k l_ web_ p_.1).2.1 (vB_u14 k l_ web_ p_.1).2.2.1 (vB_u14 k l_ web_ p_.1).2.2.2.1 (vB_u14 k l_ web_ p_.1).2.2.2.2 p_))] (.test ((v_u26 k (vB_u14 k l_ web_ p_.1).2.1 (vB_u14 k l_ web_ p_.1).2.2.1 (vB_u14 k l_ web_ p_.1).2.2.2.1 (vB_u14 k l_ web_ p_.1).2.2.2.2 p_ != (0 : Int))) (.leaf (res_u10 (((0, (0, 0)), v_u26 k (vB_u14 k l_ web_ p_.1).2.1 (vB_u14 k l_ web_ p_.1).2.2.1 (vB_u14 k l_ web_ p_.1).2.2.2.1 (vB_u14 k l_ web_ p_.1).2.2.2.2 p_))) (bo_u10 l_ web_ p_ (((0, (0, 0)), v_u26 k (vB_u14 k l_ web_ p_.1).2.1 (vB_u14 k l_ web_ p_.1).2.2.1 (vB_u14 k l_ web_ p_.1).2.2.2.1 (vB_u14 k l_ web_ p_.1).2.2.2.2 p_)))) (.need [(0 : Int) ≤ (mget I p_.1 (vB_u14 k l_ web_ p_.1).2.2.2.2).getD (0 : Int), (mget I p_.1 (vB_u14 k l_ web_ p_.1).2.2.2.2).getD (0 : Int) < (↑ (vB_u14 k l_ web_ p_.1).2.2.2.1.length : Int), CC Tryz.prog 32 (args_u17 ((vB_u14 k l_ web_ p_.1).2.2.2.1.getD (Int.toNat ((mget I p_.1 (vB_u14 k l_ web_ p_.1).2.2.2.2).getD 0)) T2.dflt) p_) (bin_u17 ((vB_u14 k l_ web_ p_.1).2.2.2.1.getD (Int.toNat ((mget I p_.1 (vB_u14 k l_ web_ p_.1).2.2.2.2).getD 0)) T2.dflt) p_) (res_u17 (v_u17 k ((vB_u14 k l_ web_ p_.1).2.2.2.1.getD (Int.toNat ((mget I p_.1 (vB_u14 k l_ web_ p_.1).2.2.2.2).getD 0)) T2.dflt) p_)) (bo_u17 ((vB_u14 k l_ web_ p_.1).2.2.2.1.getD (Int.toNat ((mget I p_.1 (vB_u14 k l_ web_ p_.1).2.2.2.2).getD 0)) T2.dflt) p_ (v_u17 k ((vB_u14 k l_ web_ p_.1).2.2.2.1.getD (Int.toNat ((mget I p_.1 (vB_u14 k l_ web_ p_.1).2.2.2.2).getD 0)) T2.dflt) p_))] (.leaf (res_u10 ((v_u17 k ((vB_u14 k l_ web_ p_.1).2.2.2.1.getD (Int.toNat ((mget I p_.1 (vB_u14 k l_ web_ p_.1).2.2.2.2).getD 0)) T2.dflt) p_, 0))) (bo_u10 l_ web_ p_ ((v_u17 k ((vB_u14 k l_ web_ p_.1).2.2.2.1.getD (Int.toNat ((mget I p_.1 (vB_u14 k l_ web_ p_.1).2.2.2.2).getD 0)) T2.dflt) p_, 0))))))))))) (by kernel_rfl) ?_
 refine ⟨fun c => ?_, fun c => ?_⟩
 ·rw [cond_t (show ((Sum.isLeft (v_u14 k l_ web_ p_.1))) = true from c)] at h
  by_cases q : ((f_u14 k l_ web_ p_.1).isSome = true)
  ·rw [if_pos q] at h
   refine ⟨(conjC (ccA_u14 k l_ web_ p_.1 q (by assumption)) conj0), ?_⟩
   refine ⟨fun c => ?_, fun c => ?_⟩
   ·rw [cond_t (show ((vA_u14 k l_ web_ p_.1 != (0 : Int))) = true from c)] at h
    cases h; exact ⟨rfl, rfl⟩
   ·rw [cond_f (show ((vA_u14 k l_ web_ p_.1 != (0 : Int))) = false from c)] at h
    refine ⟨fun c => ?_, fun c => ?_⟩
    ·rw [cond_t (show ((p_.1 == (0 : Int))) = true from c)] at h
     cases h; exact ⟨rfl, rfl⟩
    ·rw [cond_f (show ((p_.1 == (0 : Int))) = false from c)] at h
     cases h
  ·rw [if_neg q] at h; cases h
 ·rw [cond_f (show ((Sum.isLeft (v_u14 k l_ web_ p_.1))) = false from c)] at h
  by_cases q : ((f_u14 k l_ web_ p_.1).isSome = true)
  ·rw [if_pos q] at h
   refine ⟨(conjC (ccB_u14 k l_ web_ p_.1 q (by assumption)) conj0), ?_⟩
   refine ⟨fun c => ?_, fun c => ?_⟩
   ·rw [cond_t (show (((vB_u14 k l_ web_ p_.1).1 != (0 : Int))) = true from c)] at h
    cases h; exact ⟨rfl, rfl⟩
   ·rw [cond_f (show (((vB_u14 k l_ web_ p_.1).1 != (0 : Int))) = false from c)] at h
    refine ⟨fun c => ?_, fun c => ?_⟩
    ·rw [cond_t (show ((p_.1 == (0 : Int))) = true from c)] at h
     cases h; exact ⟨rfl, rfl⟩
    ·rw [cond_f (show ((p_.1 == (0 : Int))) = false from c)] at h
     by_cases q : ((f_u26 k (vB_u14 k l_ web_ p_.1).2.1 (vB_u14 k l_ web_ p_.1).2.2.1 (vB_u14 k l_ web_ p_.1).2.2.2.1 (vB_u14 k l_ web_ p_.1).2.2.2.2 p_).isSome = true)
     ·rw [if_pos q] at h
      refine ⟨(conjC (cc_u26 k (vB_u14 k l_ web_ p_.1).2.1 (vB_u14 k l_ web_ p_.1).2.2.1 (vB_u14 k l_ web_ p_.1).2.2.2.1 (vB_u14 k l_ web_ p_.1).2.2.2.2 p_ q) conj0), ?_⟩
      refine ⟨fun c => ?_, fun c => ?_⟩
      ·rw [cond_t (show ((v_u26 k (vB_u14 k l_ web_ p_.1).2.1 (vB_u14 k l_ web_ p_.1).2.2.1 (vB_u14 k l_ web_ p_.1).2.2.2.1 (vB_u14 k l_ web_ p_.1).2.2.2.2 p_ != (0 : Int))) = true from c)] at h
       cases h; exact ⟨rfl, rfl⟩
      ·rw [cond_f (show ((v_u26 k (vB_u14 k l_ web_ p_.1).2.1 (vB_u14 k l_ web_ p_.1).2.2.1 (vB_u14 k l_ web_ p_.1).2.2.2.1 (vB_u14 k l_ web_ p_.1).2.2.2.2 p_ != (0 : Int))) = false from c)] at h
       by_cases q : ((0 : Int) ≤ (mget I p_.1 (vB_u14 k l_ web_ p_.1).2.2.2.2).getD (0 : Int)) ∧ ((mget I p_.1 (vB_u14 k l_ web_ p_.1).2.2.2.2).getD (0 : Int) < (↑ (vB_u14 k l_ web_ p_.1).2.2.2.1.length : Int)) ∧ ((f_u17 k ((vB_u14 k l_ web_ p_.1).2.2.2.1.getD (Int.toNat ((mget I p_.1 (vB_u14 k l_ web_ p_.1).2.2.2.2).getD 0)) T2.dflt) p_).isSome = true)
       ·rw [if_pos q] at h
        refine ⟨(conjC q.1 (conjC q.2.1 (conjC (cc_u17 k ((vB_u14 k l_ web_ p_.1).2.2.2.1.getD (Int.toNat ((mget I p_.1 (vB_u14 k l_ web_ p_.1).2.2.2.2).getD 0)) T2.dflt) p_ q.2.2) conj0))), ?_⟩
        cases h; exact ⟨rfl, rfl⟩
       ·rw [if_neg q] at h; cases h
     ·rw [if_neg q] at h; cases h
  ·rw [if_neg q] at h; cases h
theorem cc_u10 (k : Nat) (l_ : List (T2).T) (web_ : T5.T) (p_ : T4.T) (h : (f_u10 k l_ web_ p_).isSome = true) : CC Tryz.prog 10 (args_u10 l_ web_ p_) (bin_u10 l_ web_ p_) (res_u10 (v_u10 k l_ web_ p_)) (bo_u10 l_ web_ p_ (v_u10 k l_ web_ p_)) := by
 cases e : f_u10 k l_ web_ p_ with
 | none => rw [e] at h; cases h
 | some r => rw [show v_u10 k l_ web_ p_ = r by simp [v_u10, e]]; exact of_u10 k l_ web_ p_ r e

end
end Go.AM
namespace Go.AM
open Go Go.Proofs Go.IntKind
set_option linter.unusedVariables false
noncomputable section
abbrev R_u28 : Type := Int
def res_u28 (r : R_u28) : AV := .fn ((Fn.func 52)) [] [.ptr 2 0 0, .ptr 3 0 0]
def bo_u28 (g_0 : Int) (g_1 : Int) (g_2 : List (T2).T) (g_3 : List ((I).T × (I).T)) (id_ : Int) (r : R_u28) : List (Nat × Blk) := [(0, .var 73 [.r (.v (.int .i64 g_0)), .r (.v (.int .i64 g_1)), .r (.ro T2 g_2), .own 1 0]), (0, .map false I I g_3), (0, .var 3 [.r (.v (.int .i64 r))]), (0, .var 66 [.ptr 0 0 0])]
def args_u28 (g_0 : Int) (g_1 : Int) (g_2 : List (T2).T) (g_3 : List ((I).T × (I).T)) (id_ : Int) : List AV := [.ptr 0 0 0, .r (.v (.int .i64 id_))]
def bin_u28 (g_0 : Int) (g_1 : Int) (g_2 : List (T2).T) (g_3 : List ((I).T × (I).T)) (id_ : Int) : List Blk := [.var 73 [.r (.v (.int .i64 g_0)), .r (.v (.int .i64 g_1)), .r (.ro T2 g_2), .own 1 0], .map false I I g_3]
def f_u28 (k : Nat) (g_0 : Int) (g_1 : Int) (g_2 : List (T2).T) (g_3 : List ((I).T × (I).T)) (id_ : Int) : Option R_u28 :=
 some id_
def v_u28 (k : Nat) (g_0 : Int) (g_1 : Int) (g_2 : List (T2).T) (g_3 : List ((I).T × (I).T)) (id_ : Int) : R_u28 := (f_u28 k g_0 g_1 g_2 g_3 id_).getD 0
def K_u28 (k : Nat) : Calld := ⟨fun g xs => match g with
 | _ => none, fun g xs bs => match g with
 | _ => none⟩
theorem of_u28 (k : Nat) (g_0 : Int) (g_1 : Int) (g_2 : List (T2).T) (g_3 : List ((I).T × (I).T)) (id_ : Int) (r : R_u28) (h : f_u28 k g_0 g_1 g_2 g_3 id_ = some r) : CC Tryz.prog 36 (args_u28 g_0 g_1 g_2 g_3 id_) (bin_u28 g_0 g_1 g_2 g_3 id_) (res_u28 r) (bo_u28 g_0 g_1 g_2 g_3 id_ r) := by
 refine CC.of (fn := Tryz.f36) (by kernel_rfl) (by kernel_rfl) (by kernel_rfl) (by kernel_rfl) ?_
 unfold f_u28 at h
 refine Ev.tree hm (R := Rt) (K := (K_u28 k)) (l := []) (C := []) (E := [.autoB [4] true []]) (n := 1000) (T := .leaf (res_u28 id_) (bo_u28 g_0 g_1 g_2 g_3 id_ id_)) (by kernel_rfl) ?_
 cases h; exact ⟨rfl, rfl⟩
theorem cc_u28 (k : Nat) (g_0 : Int) (g_1 : Int) (g_2 : List (T2).T) (g_3 : List ((I).T × (I).T)) (id_ : Int) (h : (f_u28 k g_0 g_1 g_2 g_3 id_).isSome = true) : CC Tryz.prog 36 (args_u28 g_0 g_1 g_2 g_3 id_) (bin_u28 g_0 g_1 g_2 g_3 id_) (res_u28 (v_u28 k g_0 g_1 g_2 g_3 id_)) (bo_u28 g_0 g_1 g_2 g_3 id_ (v_u28 k g_0 g_1 g_2 g_3 id_)) := by
 cases e : f_u28 k g_0 g_1 g_2 g_3 id_ with
 | none => rw [e] at h; cases h
 | some r => rw [show v_u28 k g_0 g_1 g_2 g_3 id_ = r by simp [v_u28, e]]; exact of_u28 k g_0 g_1 g_2 g_3 id_ r e

end
end Go.AM
namespace Go.AM
open Go Go.Proofs Go.IntKind
set_option linter.unusedVariables false
noncomputable section
abbrev R_u2 : Type := T4.T
def res_u2 (r : R_u2) : AV := .r (.v (.bool true))
def bo_u2 (s5 : T4.T) (x0 : T2.T) (r : R_u2) : List (Nat × Blk) := [(0, .loop .ready none (rcAt Tryz.f14 8 [48]) (mkS 40 [(5, .ptr 1 0 0)])), (0, .var 26 (rvs (enc T4 r)))]
def args_u2 (s5 : T4.T) (x0 : T2.T) : List AV := [.agg (rvs (enc T2 x0))]
def bin_u2 (s5 : T4.T) (x0 : T2.T) : List Blk := [.loop .ready none (rcAt Tryz.f14 8 [48]) (mkS 40 [(5, .ptr 1 0 0)]), .var 26 (rvs (enc T4 s5))]
def f_u2 (k : Nat) (s5 : T4.T) (x0 : T2.T) : Option R_u2 :=
 if ((f_u17 k x0 s5).isSome = true) then
 some (v_u17 k x0 s5)
 else none
def v_u2 (k : Nat) (s5 : T4.T) (x0 : T2.T) : R_u2 := (f_u2 k s5 x0).getD (T4).dflt
def K_u2 (k : Nat) : Calld := ⟨fun g xs => match g with
 | 32 => match xs with
  | [_, _] => some [false, false]
  | _ => none
 | _ => none, fun g xs bs => match g with
 | 32 => match xs, bs with
  | [.agg qr_, .agg qp_], [] => (decS [] T2 qr_).bind fun r_ => (decS [] T4 qp_).bind fun p_ => some (.one (res_u17 (v_u17 k r_ p_), bo_u17 r_ p_ (v_u17 k r_ p_)))
  | _, _ => none
 | _ => none⟩
theorem of_u2 (k : Nat) (s5 : T4.T) (x0 : T2.T) (r : R_u2) (h : f_u2 k s5 x0 = some r) : YC Tryz.prog (args_u2 s5 x0) (bin_u2 s5 x0) (res_u2 r) (bo_u2 s5 x0 r) := by
 refine YC.of (by rw [show bin_u2 s5 x0 = _ from rfl]; exact List.cons_ne_nil _ _) (by kernel_rfl) ?_
 unfold f_u2 at h
 refine Ev.tree hm (R := Rt) (K := (K_u2 k)) (l := []) (C := []) (E := [.autoB [0] true []]) (n := 1000) (T := .need [CC Tryz.prog 32 (args_u17 x0 s5) (bin_u17 x0 s5) (res_u17 (v_u17 k x0 s5)) (bo_u17 x0 s5 (v_u17 k x0 s5))] (.leaf (res_u2 (v_u17 k x0 s5)) (bo_u2 s5 x0 (v_u17 k x0 s5)))) (by kernel_rfl) ?_
 by_cases q : ((f_u17 k x0 s5).isSome = true)
 ·rw [if_pos q] at h
  refine ⟨(conjC (cc_u17 k x0 s5 q) conj0), ?_⟩
  cases h; exact ⟨rfl, rfl⟩
 ·rw [if_neg q] at h; cases h
theorem cc_u2 (k : Nat) (s5 : T4.T) (x0 : T2.T) (h : (f_u2 k s5 x0).isSome = true) : YC Tryz.prog (args_u2 s5 x0) (bin_u2 s5 x0) (res_u2 (v_u2 k s5 x0)) (bo_u2 s5 x0 (v_u2 k s5 x0)) := by
 cases e : f_u2 k s5 x0 with
 | none => rw [e] at h; cases h
 | some r => rw [show v_u2 k s5 x0 = r by simp [v_u2, e]]; exact of_u2 k s5 x0 r e

end
end Go.AM
namespace Go.AM
open Go Go.Proofs Go.IntKind
set_option linter.unusedVariables false
noncomputable section
abbrev R_u29 : Type := T4.T × Int
def res_u29 (r : R_u29) : AV := .tup []
def bo_u29 (yield_5 : T4.T) (z00 : Int) (z100 : Int) (z101 : Int) (z102 : List (T2).T) (z103 : List ((I).T × (I).T)) (r : R_u29) : List (Nat × Blk) := [(0, .loop .ready none (rcAt Tryz.f14 8 [48]) (mkS 40 [(5, .ptr 1 0 0)])), (0, .var 26 (rvs (enc T4 r.1))), (0, .var 3 [.r (.v (.int .i64 r.2))]), (0, .var 66 [.ptr 4 0 0]), (0, .var 73 [.r (.v (.int .i64 z100)), .r (.v (.int .i64 z101)), .r (.ro T2 z102), .own 5 0]), (0, .map false I I z103)]
def args_u29 (yield_5 : T4.T) (z00 : Int) (z100 : Int) (z101 : Int) (z102 : List (T2).T) (z103 : List ((I).T × (I).T)) : List AV := [.own 0 0, .ptr 2 0 0, .ptr 3 0 0]
def bin_u29 (yield_5 : T4.T) (z00 : Int) (z100 : Int) (z101 : Int) (z102 : List (T2).T) (z103 : List ((I).T × (I).T)) : List Blk := [.loop .ready none (rcAt Tryz.f14 8 [48]) (mkS 40 [(5, .ptr 1 0 0)]), .var 26 (rvs (enc T4 yield_5)), .var 3 [.r (.v (.int .i64 z00))], .var 66 [.ptr 4 0 0], .var 73 [.r (.v (.int .i64 z100)), .r (.v (.int .i64 z101)), .r (.ro T2 z102), .own 5 0], .map false I I z103]
def st_u29_0 (yield_5 : T4.T) (z00 : Int) (z100 : Int) (z101 : Int) (z102 : List (T2).T) (z103 : List ((I).T × (I).T)) (y0 : T4.T) (y1 : Int) : St := ⟨mkS 25 [(0, .own 0 0), (1, .ptr 2 0 0), (2, .ptr 3 0 0)], [(0, 0, .loop .ready none (rcAt Tryz.f14 8 [48]) (mkS 40 [(5, .ptr 1 0 0)])), (1, 0, .var 26 (rvs (enc T4 y0))), (2, 0, .var 3 [.r (.v (.int .i64 y1))]), (3, 0, .var 66 [.ptr 4 0 0]), (4, 0, .var 73 [.r (.v (.int .i64 z100)), .r (.v (.int .i64 z101)), .r (.ro T2 z102), .own 5 0]), (5, 0, .map false I I z103)]⟩
def f_u29_0 (k : Nat) (yield_5 : T4.T) (z00 : Int) (z100 : Int) (z101 : Int) (z102 : List (T2).T) (z103 : List ((I).T × (I).T)) : Nat → T4.T → Int → Option R_u29
 | 0, _, _ => none
 | j + 1, y0, y1 =>
 bif (y1 != (0 : Int)) then
 if ((0 : Int) ≤ (mget I y1 z103).getD (0 : Int)) ∧ ((mget I y1 z103).getD (0 : Int) < (↑z102.length : Int)) then
 if ((f_u2 k y0 (z102.getD (Int.toNat ((mget I y1 z103).getD 0)) T2.dflt)).isSome = true) then
 f_u29_0 k yield_5 z00 z100 z101 z102 z103 j ((v_u2 k y0 (z102.getD (Int.toNat ((mget I y1 z103).getD 0)) T2.dflt))) ((z102.getD (Int.toNat ((mget I y1 z103).getD 0)) T2.dflt).2.1)
 else none
 else none
 else
 some ((y0, y1))
def f_u29 (k : Nat) (yield_5 : T4.T) (z00 : Int) (z100 : Int) (z101 : Int) (z102 : List (T2).T) (z103 : List ((I).T × (I).T)) : Option R_u29 :=
 f_u29_0 k yield_5 z00 z100 z101 z102 z103 k yield_5 z00
def v_u29 (k : Nat) (yield_5 : T4.T) (z00 : Int) (z100 : Int) (z101 : Int) (z102 : List (T2).T) (z103 : List ((I).T × (I).T)) : R_u29 := (f_u29 k yield_5 z00 z100 z101 z102 z103).getD ((T4).dflt, 0)
def K_u29 (k : Nat) : Calld := ⟨fun g xs => match g with
 | 1000000 => match xs with
  | [_] => some [false]
  | _ => none
 | _ => none, fun g xs bs => match g with
 | 1000000 => match xs, bs with
  | [.agg qx0], [.loop _ _ _ qs, .var 26 qs5] => (decS [] T2 qx0).bind fun x0 => (decS [] T4 qs5).bind fun s5 => some (.one (res_u2 (v_u2 k s5 x0), bo_u2 s5 x0 (v_u2 k s5 x0)))
  | _, _ => none
 | _ => none⟩
theorem ev_u29 (k : Nat) (yield_5 : T4.T) (z00 : Int) (z100 : Int) (z101 : Int) (z102 : List (T2).T) (z103 : List ((I).T × (I).T)) : ∀ j, (∀ (y0 : T4.T) (y1 : Int) (r : R_u29), f_u29_0 k yield_5 z00 z100 z101 z102 z103 j y0 y1 = some r → Ev Tryz.prog Tryz.f52 6 (placeAt Tryz.f52 0) (st_u29_0 yield_5 z00 z100 z101 z102 z103 y0 y1) (res_u29 r) (bo_u29 yield_5 z00 z100 z101 z102 z103 r))
 | 0 => by
  intros; rename_i h; simp [f_u29_0] at h
 | j + 1 => by
  have ih := ev_u29 k yield_5 z00 z100 z101 z102 z103 j
  ·intro y0 y1 r h
   rw [f_u29_0] at h
   refine Ev.tree hm (R := Rt) (K := (K_u29 k)) (l := []) (C := [(0, [.autoB [0, 1, 2] false []])]) (E := [.autoB [] true []]) (n := 1000) (T := .test ((y1 != (0 : Int))) (.need [(0 : Int) ≤ (mget I y1 z103).getD (0 : Int), (mget I y1 z103).getD (0 : Int) < (↑z102.length : Int)] (.need [YC Tryz.prog (args_u2 y0 (z102.getD (Int.toNat ((mget I y1 z103).getD 0)) T2.dflt)) (bin_u2 y0 (z102.getD (Int.toNat ((mget I y1 z103).getD 0)) T2.dflt)) (res_u2 (v_u2 k y0 (z102.getD (Int.toNat ((mget I y1 z103).getD 0)) T2.dflt))) (bo_u2 y0 (z102.getD (Int.toNat ((mget I y1 z103).getD 0)) T2.dflt) (v_u2 k y0 (z102.getD (Int.toNat ((mget I y1 z103).getD 0)) T2.dflt)))] (.test (false) (.leaf (.tup []) [(0, .loop .ready none (rcAt Tryz.f14 8 [48]) (mkS 40 [(5, .ptr 1 0 0)])), (0, .var 26 (rvs (enc T4 ((v_u2 k y0 (z102.getD (Int.toNat ((mget I y1 z103).getD 0)) T2.dflt)))))), (0, .var 3 [.r (.v (.int .i64 y1))]), (0, .var 66 [.ptr 4 0 0]), (0, .var 73 [.r (.v (.int .i64 z100)), .r (.v (.int .i64 z101)), .r (.ro T2 z102), .own 5 0]), (0, .map false I I z103)]) (.cut 0 (placeAt Tryz.f52 0) (st_u29_0 yield_5 z00 z100 z101 z102 z103 ((v_u2 k y0 (z102.getD (Int.toNat ((mget I y1 z103).getD 0)) T2.dflt))) ((z102.getD (Int.toNat ((mget I y1 z103).getD 0)) T2.dflt).2.1)))))) (.leaf (res_u29 ((y0, y1))) (bo_u29 yield_5 z00 z100 z101 z102 z103 ((y0, y1))))) (by kernel_rfl) ?_
   refine ⟨fun c => ?_, fun c => ?_⟩
   ·rw [cond_t (show ((y1 != (0 : Int))) = true from c)] at h
    by_cases q : ((0 : Int) ≤ (mget I y1 z103).getD (0 : Int)) ∧ ((mget I y1 z103).getD (0 : Int) < (↑z102.length : Int))
    ·rw [if_pos q] at h
     refine ⟨(conjC q.1 (conjC q.2 conj0)), ?_⟩
     by_cases q : ((f_u2 k y0 (z102.getD (Int.toNat ((mget I y1 z103).getD 0)) T2.dflt)).isSome = true)
     ·rw [if_pos q] at h
      refine ⟨(conjC (cc_u2 k y0 (z102.getD (Int.toNat ((mget I y1 z103).getD 0)) T2.dflt) q) conj0), ?_⟩
      refine ⟨fun c => ?_, fun c => ?_⟩
      ·cases c
      exact ih ((v_u2 k y0 (z102.getD (Int.toNat ((mget I y1 z103).getD 0)) T2.dflt))) ((z102.getD (Int.toNat ((mget I y1 z103).getD 0)) T2.dflt).2.1) _ h
     ·rw [if_neg q] at h; cases h
    ·rw [if_neg q] at h; cases h
   ·rw [cond_f (show ((y1 != (0 : Int))) = false from c)] at h
    cases h; exact ⟨rfl, rfl⟩
theorem of_u29 (k : Nat) (yield_5 : T4.T) (z00 : Int) (z100 : Int) (z101 : Int) (z102 : List (T2).T) (z103 : List ((I).T × (I).T)) (r : R_u29) (h : f_u29 k yield_5 z00 z100 z101 z102 z103 = some r) : CC Tryz.prog 52 (args_u29 yield_5 z00 z100 z101 z102 z103) (bin_u29 yield_5 z00 z100 z101 z102 z103) (res_u29 r) (bo_u29 yield_5 z00 z100 z101 z102 z103 r) := by
 refine CC.of (fn := Tryz.f52) (by kernel_rfl) (by kernel_rfl) (by kernel_rfl) (by kernel_rfl) ?_
 unfold f_u29 at h
 refine Ev.tree hm (R := Rt) (K := (K_u29 k)) (l := []) (C := [(0, [.autoB [0, 1, 2] false []])]) (E := [.autoB [] true []]) (n := 1000) (T := .cut 0 (placeAt Tryz.f52 0) (st_u29_0 yield_5 z00 z100 z101 z102 z103 yield_5 z00)) (by kernel_rfl) ?_
 exact (ev_u29 k yield_5 z00 z100 z101 z102 z103 k) yield_5 z00 _ h
theorem cc_u29 (k : Nat) (yield_5 : T4.T) (z00 : Int) (z100 : Int) (z101 : Int) (z102 : List (T2).T) (z103 : List ((I).T × (I).T)) (h : (f_u29 k yield_5 z00 z100 z101 z102 z103).isSome = true) : CC Tryz.prog 52 (args_u29 yield_5 z00 z100 z101 z102 z103) (bin_u29 yield_5 z00 z100 z101 z102 z103) (res_u29 (v_u29 k yield_5 z00 z100 z101 z102 z103)) (bo_u29 yield_5 z00 z100 z101 z102 z103 (v_u29 k yield_5 z00 z100 z101 z102 z103)) := by
 cases e : f_u29 k yield_5 z00 z100 z101 z102 z103 with
 | none => rw [e] at h; cases h
 | some r => rw [show v_u29 k yield_5 z00 z100 z101 z102 z103 = r by simp [v_u29, e]]; exact of_u29 k yield_5 z00 z100 z101 z102 z103 r e

end
end Go.AM
namespace Go.AM
open Go Go.Proofs Go.IntKind
set_option linter.unusedVariables false
noncomputable section
abbrev R_u11 : Type := T4.T × Int
def res_u11 (r : R_u11) : AV := .tup [.agg (rvs (enc T4 r.1)), .r (.v (.int .i64 r.2))]
def bo_u11 (l_ : List (T2).T) (web_ : T5.T) (p_ : T4.T) (r : R_u11) : List (Nat × Blk) := []
def args_u11 (l_ : List (T2).T) (web_ : T5.T) (p_ : T4.T) : List AV := [.r (.ro T2 l_), .agg (rvs (enc T5 web_)), .agg (rvs (enc T4 p_))]
def bin_u11 (l_ : List (T2).T) (web_ : T5.T) (p_ : T4.T) : List Blk := []
def f_u11 (k : Nat) (l_ : List (T2).T) (web_ : T5.T) (p_ : T4.T) : Option R_u11 :=
 bif (Sum.isLeft (v_u14 k l_ web_ p_.1)) then
 if ((f_u14 k l_ web_ p_.1).isSome = true) then
 bif (vA_u14 k l_ web_ p_.1 != (0 : Int)) then
 some (((0, (0, 0)), vA_u14 k l_ web_ p_.1))
 else
 none
 else none
 else
 if ((f_u14 k l_ web_ p_.1).isSome = true) then
 bif ((vB_u14 k l_ web_ p_.1).1 != (0 : Int)) then
 some (((0, (0, 0)), (vB_u14 k l_ web_ p_.1).1))
 else
 if ((f_u26 k (vB_u14 k l_ web_ p_.1).2.1 (vB_u14 k l_ web_ p_.1).2.2.1 (vB_u14 k l_ web_ p_.1).2.2.2.1 (vB_u14 k l_ web_ p_.1).2.2.2.2 p_).isSome = true) then
 bif (v_u26 k (vB_u14 k l_ web_ p_.1).2.1 (vB_u14 k l_ web_ p_.1).2.2.1 (vB_u14 k l_ web_ p_.1).2.2.2.1 (vB_u14 k l_ web_ p_.1).2.2.2.2 p_ != (0 : Int)) then
 some (((0, (0, 0)), v_u26 k (vB_u14 k l_ web_ p_.1).2.1 (vB_u14 k l_ web_ p_.1).2.2.1 (vB_u14 k l_ web_ p_.1).2.2.2.1 (vB_u14 k l_ web_ p_.1).2.2.2.2 p_))
 else
 if ((f_u28 k (vB_u14 k l_ web_ p_.1).2.1 (vB_u14 k l_ web_ p_.1).2.2.1 (vB_u14 k l_ web_ p_.1).2.2.2.1 (vB_u14 k l_ web_ p_.1).2.2.2.2 p_.1).isSome = true) then
 if ((f_u29 k p_ (v_u28 k (vB_u14 k l_ web_ p_.1).2.1 (vB_u14 k l_ web_ p_.1).2.2.1 (vB_u14 k l_ web_ p_.1).2.2.2.1 (vB_u14 k l_ web_ p_.1).2.2.2.2 p_.1) (vB_u14 k l_ web_ p_.1).2.1 (vB_u14 k l_ web_ p_.1).2.2.1 (vB_u14 k l_ web_ p_.1).2.2.2.1 (vB_u14 k l_ web_ p_.1).2.2.2.2).isSome = true) then
 some (((v_u29 k p_ (v_u28 k (vB_u14 k l_ web_ p_.1).2.1 (vB_u14 k l_ web_ p_.1).2.2.1 (vB_u14 k l_ web_ p_.1).2.2.2.1 (vB_u14 k l_ web_ p_.1).2.2.2.2 p_.1) (vB_u14 k l_ web_ p_.1).2.1 (vB_u14 k l_ web_ p_.1).2.2.1 (vB_u14 k l_ web_ p_.1).2.2.2.1 (vB_u14 k l_ web_ p_.1).2.2.2.2).1, 0))
 else none
 else none
 else none
 else none
def v_u11 (k : Nat) (l_ : List (T2).T) (web_ : T5.T) (p_ : T4.T) : R_u11 := (f_u11 k l_ web_ p_).getD ((T4).dflt, 0)
def K_u11 (k : Nat) : Calld := ⟨fun g xs => match g with
 | 30 => match xs with
  | [_, _, _] => some [false, false, false]
  | _ => none
 | 31 => match xs with
  | [.ptr _ _ _, _] => some [true, false]
  | _ => none
 | 32 => match xs with
  | [_, _] => some [false, false]
  | _ => none
 | 36 => match xs with
  | [.ptr _ _ _, _] => some [true, false]
  | _ => none
 | 52 => match xs with
  | [.own _ _, .ptr _ _ _, .ptr _ _ _] => some [true, true, true]
  | _ => none
 | _ => none, fun g xs bs => match g with
 | 30 => match xs, bs with
  | [.r (.ro tl__ ql_), .agg qweb_, .r (.v (.int .i64 id_))], [] => (castL tl__ T2 ql_).bind fun l_ => (decS [] T5 qweb_).bind fun web_ => some (.two (v_u14 k l_ web_ id_).isLeft (resA_u14 (vA_u14 k l_ web_ id_), boA_u14 l_ web_ id_ (vA_u14 k l_ web_ id_)) (resB_u14 (vB_u14 k l_ web_ id_), boB_u14 l_ web_ id_ (vB_u14 k l_ web_ id_)))
  | _, _ => none
 | 31 => match xs, bs with
  | [.ptr 0 0 0, .agg qp_], [.var 73 [.r (.v (.int .i64 g_0)), .r (.v (.int .i64 g_1)), .r (.ro tg_2_ qg_2), .own 1 0], .map false kg_3_ tg_3_ qg_3] => (decS [] T4 qp_).bind fun p_ => (castL tg_2_ T2 qg_2).bind fun g_2 => (castM kg_3_ tg_3_ I I qg_3).bind fun g_3 => some (.one (res_u26 (v_u26 k g_0 g_1 g_2 g_3 p_), bo_u26 g_0 g_1 g_2 g_3 p_ (v_u26 k g_0 g_1 g_2 g_3 p_)))
  | _, _ => none
 | 32 => match xs, bs with
  | [.agg qr_, .agg qp_], [] => (decS [] T2 qr_).bind fun r_ => (decS [] T4 qp_).bind fun p_ => some (.one (res_u17 (v_u17 k r_ p_), bo_u17 r_ p_ (v_u17 k r_ p_)))
  | _, _ => none
 | 36 => match xs, bs with
  | [.ptr 0 0 0, .r (.v (.int .i64 id_))], [.var 73 [.r (.v (.int .i64 g_0)), .r (.v (.int .i64 g_1)), .r (.ro tg_2_ qg_2), .own 1 0], .map false kg_3_ tg_3_ qg_3] => (castL tg_2_ T2 qg_2).bind fun g_2 => (castM kg_3_ tg_3_ I I qg_3).bind fun g_3 => some (.one (res_u28 (v_u28 k g_0 g_1 g_2 g_3 id_), bo_u28 g_0 g_1 g_2 g_3 id_ (v_u28 k g_0 g_1 g_2 g_3 id_)))
  | _, _ => none
 | 52 => match xs, bs with
  | [.own 0 0, .ptr 2 0 0, .ptr 3 0 0], [.loop _ _ _ qyield_, .var 26 qyield_5, .var 3 [.r (.v (.int .i64 z00))], .var 66 [.ptr 4 0 0], .var 73 [.r (.v (.int .i64 z100)), .r (.v (.int .i64 z101)), .r (.ro tz102_ qz102), .own 5 0], .map false kz103_ tz103_ qz103] => (decS [] T4 qyield_5).bind fun yield_5 => (castL tz102_ T2 qz102).bind fun z102 => (castM kz103_ tz103_ I I qz103).bind fun z103 => some (.one (res_u29 (v_u29 k yield_5 z00 z100 z101 z102 z103), bo_u29 yield_5 z00 z100 z101 z102 z103 (v_u29 k yield_5 z00 z100 z101 z102 z103)))
  | _, _ => none
 | _ => none⟩
theorem of_u11 (k : Nat) (l_ : List (T2).T) (web_ : T5.T) (p_ : T4.T) (r : R_u11) (h : f_u11 k l_ web_ p_ = some r) : CC Tryz.prog 14 (args_u11 l_ web_ p_) (bin_u11 l_ web_ p_) (res_u11 r) (bo_u11 l_ web_ p_ r) := by
 refine CC.of (fn := Tryz.f14) (by kernel_rfl) (by kernel_rfl) (by kernel_rfl) (by kernel_rfl) ?_
 unfold f_u11 at h
 refine Ev.tree hm (R := Rt) (K := (K_u11 k)) (l := []) (C := []) (E := [.autoB [6, 7] true []]) (n := 1000) (T := .test ((Sum.isLeft (v_u14 k l_ web_ p_.1))) (.need [CC Tryz.prog 30 (args_u14 l_ web_ p_.1) (bin_u14 l_ web_ p_.1) (resA_u14 (vA_u14 k l_ web_ p_.1)) (boA_u14 l_ web_ p_.1 (vA_u14 k l_ web_ p_.1))] (.test ((vA_u14 k l_ web_ p_.1 != (0 : Int))) (.leaf (res_u11 (((0, (0, 0)), vA_u14 k l_ web_ p_.1))) (bo_u11 l_ web_ p_ (((0, (0, 0)), vA_u14 k l_ web_ p_.1)))) (.stuck 2002))) (.need [CC Tryz.prog 30 (args_u14 l_ web_ p_.1) (bin_u14 l_ web_ p_.1) (resB_u14 (vB_u14 k l_ web_ p_.1)) (boB_u14 l_ web_ p_.1 (vB_u14 k l_ web_ p_.1))] (.test (((vB_u14 k l_ web_ p_.1).1 != (0 : Int))) (.leaf (res_u11 (((0, (0, 0)), (vB_u14 k l_ web_ p_.1).1))) (bo_u11 l_ web_ p_ (((0, (0, 0)), (vB_u14 k l_ web_ p_.1).1)))) (.need [CC Tryz.prog 31 (args_u26 (vB_u14 k l_ web_ p_.1).2.1 (vB_u14 k l_ web_ p_.1).2.2.1 (vB_u14 k l_ web_ p_.1).2.2.2.1 (vB_u14 k l_ web_ p_.1).2.2.2.2 p_) (bin_u26 (vB_u14 k l_ web_ p_.1).2.1 (vB_u14 k l_ web_ p_.1).2.2.1 (vB_u14 k l_ web_ p_.1).2.2.2.1 (vB_u14 k l_ web_ p_.1).2.2.2.2 p_) (res_u26 (v_u26 k (vB_u14 k l_ web_ p_.1).2.1 (vB_u14 k l_ web_ p_.1).2.2.1 (vB_u14 k l_ web_ p_.1).2.2.2.1 (vB_u14 k l_ web_ p_.1).2.2.2.2 p_)) (bo_u26 (vB_u14 k l_ web_ p_.1).2.1 (vB_u14 k l_ web_ p_.1).2.2.1 (vB_u14 k l_ web_ p_.1).2.2.2.1 (vB_u14 k l_ web_ p_.1).2.2.2.2 p_ (v_u26 k (vB_u14 k l_ web_ p_.1).2.1 (vB_u14 k l_ web_ p_.1).2.2.1 (vB_u14 k l_ web_ p_.1).2.2.2.1 (vB_u14 k l_ web_ p_.1).2.2.2.2 p_))] (.test ((v_u26 k (vB_u14 k l_ web_ p_.1).2.1 (vB_u14 k l_ web_ p_.1).2.2.1 (vB_u14 k l_ web_ p_.1).2.2.2.1 (vB_u14 k l_ web_ p_.1).2.2.2.2 p_ != (0 : Int))) (.leaf (res_u11 (((0, (0, 0)), v_u26 k (vB_u14 k l_ web_ p_.1).2.1 (vB_u14 k l_ web_ p_.1).2.2.1 (vB_u14 k l_ web_ p_.1).2.2.2.1 (vB_u14 k l_ web_ p_.1).2.2.2.2 p_))) (bo_u11 l_ web_ p_ (((0, (0, 0)), v_u26 k (vB_u14 k l_ web_ p_.1).2.1 (vB_u14 k l_ web_ p_.1).2.2.1 (vB_u14 k l_ web_ p_.1).2.2.2.1 (vB_u14 k l_ web_ p_.1).2.2.2.2 p_)))) (.need [CC Tryz.prog 36 (args_u28 (vB_u14 k l_ web_ p_.1).2.1 (vB_u14 k l_ web_ p_.1).2.2.1 (vB_u14 k l_ web_ p_.1).2.2.2.1 (vB_u14 k l_ web_ p_.1).2.2.2.2 p_.1) (bin_u28 (vB_u14 k l_ web_ p_.1).2.1 (vB_u14 k l_ web_ p_.1).2.2.1 (vB_u14 k l_ web_ p_.1).2.2.2.1 (vB_u14 k l_ web_ p_.1).2.2.2.2 p_.1) (res_u28 (v_u28 k (vB_u14 k l_ web_ p_.1).2.1 (vB_u14 k l_ web_ p_.1).2.2.1 (vB_u14 k l_ web_ p_.1).2.2.2.1 (vB_u14 k l_ web_ p_.1).2.2.2.2 p_.1)) (bo_u28 (vB_u14 k l_ web_ p_.1).2.1 (vB_u14 k l_ web_ p_.1).2.2.1 (vB_u14 k l_ web_ p_.1).2.2.2.1 (vB_u14 k l_ web_ p_.1).2.2.2.2 p_.1 (v_u28 k (vB_u14 k l_ web_ p_.1).2.1 (vB_u14 k l_ web_ p_.1).2.2.1 (vB_u14 k l_ web_ p_.1).2.2.2.1 (vB_u14 k l_ web_ p_.1).2.2.2.2 p_.1))] (.need [CC Tryz.prog 52 (args_u29 p_ (v_u28 k (vB_u14 k l_ web_ p_.1).2.1 (vB_u14 k l_ web_ p_.1).2.2.1 (vB_u14 k l_ web_ p_.1).2.2.2.1 (vB_u14 k l_ web_ p_.1).2.2.2.2 p_.1) (vB_u14 k l_ web_ p_.1).2.1 (vB_u14 k l_ web_ p_.1).2.2.1 (vB_u14 k l_ web_ p_.1).2.2.2.1 (vB_u14 k l_ web_ p_.1).2.2.2.2) (bin_u29 p_ (v_u28 k (vB_u14 k l_ web_ p_.1).2.1 (vB_u14 k l_ web_ p_.1).2.2.1 (vB_u14 k l_ web_ p_.1).2.2.2.1 (vB_u14 k l_ web_ p_.1).2.2.2.2 p_.1) (vB_u14 k l_ web_ p_.1).2.1 (vB_u14 k l_ web_ p_.1).2.2.1 (vB_u14 k l_ web_ p_.1).2.2.2.1 (vB_u14 k l_ web_ p_.1).2.2.2.2) (res_u29 (v_u29 k p_ (v_u28 k (vB_u14 k l_ web_ p_.1).2.1 (vB_u14 k l_ web_ p_.1).2.2.1 (vB_u14 k l_ web_ p_.1).2.2.2.1 (vB_u14 k l_ web_ p_.1).2.2.2.2 p_.1) (vB_u14 k l_ web_ p_.1).2.1 (vB_u14 k l_ web_ p_.1).2.2.1 (vB_u14 k l_ web_ p_.1).2.2.2.1 (vB_u14 k l_ web_ p_.1).2.2.2.2)) (bo_u29 p_ (v_u28 k (vB_u14 k l_ web_ p_.1).2.1 (vB_u14 k l_ web_ p_.1).2.2.1 (vB_u14 k l_ web_ p_.1).2.2.2.1 (vB_u14 k l_ web_ p_.1).2.2.2.2 p_.1) (vB_u14 k l_ web_ p_.1).2.1 (vB_u14 k l_ web_ p_.1).2.2.1 (vB_u14 k l_ web_ p_.1).2.2.2.1 (vB_u14 k l_ web_ p_.1).2.2.2.2 (v_u29 k p_ (v_u28 k (vB_u14 k l_ web_ p_.1).2.1 (vB_u14 k l_ web_ p_.1).2.2.1 (vB_u14 k l_ web_ p_.1).2.2.2.1 (vB_u14 k l_ web_ p_.1).2.2.2.2 p_.1) (vB_u14 k l_ web_ p_.1).2.1 (vB_u14 k l_ web_ p_.1).2.2.1 (vB_u14 k l_ web_ p_.1).2.2.2.1 (vB_u14 k l_ web_ p_.1).2.2.2.2))] (.leaf (res_u11 (((v_u29 k p_ (v_u28 k (vB_u14 k l_ web_ p_.1).2.1 (vB_u14 k l_ web_ p_.1).2.2.1 (vB_u14 k l_ web_ p_.1).2.2.2.1 (vB_u14 k l_ web_ p_.1).2.2.2.2 p_.1) (vB_u14 k l_ web_ p_.1).2.1 (vB_u14 k l_ web_ p_.1).2.2.1 (vB_u14 k l_ web_ p_.1).2.2.2.1 (vB_u14 k l_ web_ p_.1).2.2.2.2).1, 0))) (bo_u11 l_ web_ p_ (((v_u29 k p_ (v_u28 k (vB_u14 k l_ web_ p_.1).2.1 (vB_u14 k l_ web_ p_.1).2.2.1 (vB_u14 k l_ web_ p_.1).2.2.2.1 (vB_u14 k l_ web_ p_.1).2.2.2.2 p_.1) (vB_u14 k l_ web_ p_.1).2.1 (vB_u14 k l_ web_ p_.1).2.2.1 (vB_u14 k l_ web_ p_.1).2.2.2.1 (vB_u14 k l_ web_ p_.1).2.2.2.2).1, 0))))))))))) (by kernel_rfl) ?_
 refine ⟨fun c => ?_, fun c => ?_⟩
 ·rw [cond_t (show ((Sum.isLeft (v_u14 k l_ web_ p_.1))) = true from c)] at h
  by_cases q : ((f_u14 k l_ web_ p_.1).isSome = true)
  ·rw [if_pos q] at h
   refine ⟨(conjC (ccA_u14 k l_ web_ p_.1 q (by assumption)) conj0), ?_⟩
   refine ⟨fun c => ?_, fun c => ?_⟩
   ·rw [cond_t (show ((vA_u14 k l_ web_ p_.1 != (0 : Int))) = true from c)] at h
    cases h; exact ⟨rfl, rfl⟩
   ·rw [cond_f (show ((vA_u14 k l_ web_ p_.1 != (0 : Int))) = false from c)] at h
    cases h
  ·rw [if_neg q] at h; cases h
 ·rw [cond_f (show ((Sum.isLeft (v_u14 k l_ web_ p_.1))) = false from c)] at h
  by_cases q : ((f_u14 k l_ web_ p_.1).isSome = true)
  ·rw [if_pos q] at h
   refine ⟨(conjC (ccB_u14 k l_ web_ p_.1 q (by assumption)) conj0), ?_⟩
   refine ⟨fun c => ?_, fun c => ?_⟩
   ·rw [cond_t (show (((vB_u14 k l_ web_ p_.1).1 != (0 : Int))) = true from c)] at h
    cases h; exact ⟨rfl, rfl⟩
   ·rw [cond_f (show (((vB_u14 k l_ web_ p_.1).1 != (0 : Int))) = false from c)] at h
    by_cases q : ((f_u26 k (vB_u14 k l_ web_ p_.1).2.1 (vB_u14 k l_ web_ p_.1).2.2.1 (vB_u14 k l_ web_ p_.1).2.2.2.1 (vB_u14 k l_ web_ p_.1).2.2.2.2 p_).isSome = true)
    ·rw [if_pos q] at h
     refine ⟨(conjC (cc_u26 k (vB_u14 k l_ web_ p_.1).2.1 (vB_u14 k l_ web_ p_.1).2.2.1 (vB_u14 k l_ web_ p_.1).2.2.2.1 (vB_u14 k l_ web_ p_.1).2.2.2.2 p_ q) conj0), ?_⟩
     refine ⟨fun c => ?_, fun c => ?_⟩
     ·rw [cond_t (show ((v_u26 k (vB_u14 k l_ web_ p_.1).2.1 (vB_u14 k l_ web_ p_.1).2.2.1 (vB_u14 k l_ web_ p_.1).2.2.2.1 (vB_u14 k l_ web_ p_.1).2.2.2.2 p_ != (0 : Int))) = true from c)] at h
      cases h; exact ⟨rfl, rfl⟩
     ·rw [cond_f (show ((v_u26 k (vB_u14 k l_ web_ p_.1).2.1 (vB_u14 k l_ web_ p_.1).2.2.1 (vB_u14 k l_ web_ p_.1).2.2.2.1 (vB_u14 k l_ web_ p_.1).2.2.2.2 p_ != (0 : Int))) = false from c)] at h
      by_cases q : ((f_u28 k (vB_u14 k l_ web_ p_.1).2.1 (vB_u14 k l_ web_ p_.1).2.2.1 (vB_u14 k l_ web_ p_.1).2.2.2.1 (vB_u14 k l_ web_ p_.1).2.2.2.2 p_.1).isSome = true)
      ·rw [if_pos q] at h
       refine ⟨(conjC (cc_u28 k (vB_u14 k l_ web_ p_.1).2.1 (vB_u14 k l_ web_ p_.1).2.2.1 (vB_u14 k l_ web_ p_.1).2.2.2.1 (vB_u14 k l_ web_ p_.1).2.2.2.2 p_.1 q) conj0), ?_⟩
       by_cases q : ((f_u29 k p_ (v_u28 k (vB_u14 k l_ web_ p_.1).2.1 (vB_u14 k l_ web_ p_.1).2.2.1 (vB_u14 k l_ web_ p_.1).2.2.2.1 (vB_u14 k l_ web_ p_.1).2.2.2.2 p_.1) (vB_u14 k l_ web_ p_.1).2.1 (vB_u14 k l_ web_ p_.1).2.2.1 (vB_u14 k l_ web_ p_.1).2.2.2.1 (vB_u14 k l_ web_ p_.1).2.2.2.2).isSome = true)
       ·rw [if_pos q] at h
        refine ⟨(conjC (cc_u29 k p_ (v_u28 k (vB_u14 k l_ web_ p_.1).2.1 (vB_u14 k l_ web_ p_.1).2.2.1 (vB_u14 k l_ web_ p_.1).2.2.2.1 (vB_u14 k l_ web_ p_.1).2.2.2.2 p_.1) (vB_u14 k l_ web_ p_.1).2.1 (vB_u14 k l_ web_ p_.1).2.2.1 (vB_u14 k l_ web_ p_.1).2.2.2.1 (vB_u14 k l_ web_ p_.1).2.2.2.2 q) conj0), ?_⟩
        cases h; exact ⟨rfl, rfl⟩
       ·rw [if_neg q] at h; cases h
      ·rw [if_neg q] at h; cases h
    ·rw [if_neg q] at h; cases h
  ·rw [if_neg q] at h; cases h
theorem cc_u11 (k : Nat) (l_ : List (T2).T) (web_ : T5.T) (p_ : T4.T) (h : (f_u11 k l_ web_ p_).isSome = true) : CC Tryz.prog 14 (args_u11 l_ web_ p_) (bin_u11 l_ web_ p_) (res_u11 (v_u11 k l_ web_ p_)) (bo_u11 l_ web_ p_ (v_u11 k l_ web_ p_)) := by
 cases e : f_u11 k l_ web_ p_ with
 | none => rw [e] at h; cases h
 | some r => rw [show v_u11 k l_ web_ p_ = r by simp [v_u11, e]]; exact of_u11 k l_ web_ p_ r e

end
end Go.AM
namespace Go.AM
open Go Go.Proofs Go.IntKind
set_option linter.unusedVariables false
noncomputable section
abbrev R_u87 : Type := Int × Int × Int
def res_u87 (r : R_u87) : AV := .tup [.r (.v (.int .i64 r.1)), .r (.v (.int .i64 r.2.1)), .r (.v (.int .i64 r.2.2))]
def bo_u87 (l_ : List (T2).T) (web_ : T6.T) (id_ : Int) (r : R_u87) : List (Nat × Blk) := []
def args_u87 (l_ : List (T2).T) (web_ : T6.T) (id_ : Int) : List AV := [.r (.ro T2 l_), .agg (rvs (enc T6 web_)), .r (.v (.int .i64 id_))]
def bin_u87 (l_ : List (T2).T) (web_ : T6.T) (id_ : Int) : List Blk := []
def f_u87 (k : Nat) (l_ : List (T2).T) (web_ : T6.T) (id_ : Int) : Option R_u87 :=
 if ((f_u79 k l_ web_.1 web_.2).isSome = true) then
 bif (v_u79 k l_ web_.1 web_.2 != (0 : Int)) then
 some ((0, 0, v_u79 k l_ web_.1 web_.2))
 else
 bif (id_ == (0 : Int)) then
 some ((web_.1, web_.2, 0))
 else
 if ((f_u82 k l_ (↑l_.length : Int) id_).isSome = true) then
 bif (decide (v_u82 k l_ (↑l_.length : Int) id_ < (0 : Int))) then
 some ((0, 0, 7))
 else
 if ((0 : Int) ≤ v_u82 k l_ (↑l_.length : Int) id_) ∧ (v_u82 k l_ (↑l_.length : Int) id_ < (↑l_.length : Int)) ∧ ((0 : Int) ≤ v_u82 k l_ (↑l_.length : Int) id_) ∧ (v_u82 k l_ (↑l_.length : Int) id_ < (↑l_.length : Int)) ∧ ((f_u85 k (l_.getD (Int.toNat (v_u82 k l_ (↑l_.length : Int) id_)) T2.dflt).2.2.2.2.2).isSome = true) then
 some (((l_.getD (Int.toNat (v_u82 k l_ (↑l_.length : Int) id_)) T2.dflt).2.2.2.1, v_u85 k (l_.getD (Int.toNat (v_u82 k l_ (↑l_.length : Int) id_)) T2.dflt).2.2.2.2.2, 0))
 else none
 else none
 else none
def v_u87 (k : Nat) (l_ : List (T2).T) (web_ : T6.T) (id_ : Int) : R_u87 := (f_u87 k l_ web_ id_).getD (0, 0, 0)
def K_u87 (k : Nat) : Calld := ⟨fun g xs => match g with
 | 35 => match xs with
  | [_, _, _] => some [false, false, false]
  | _ => none
 | 43 => match xs with
  | [_] => some [false]
  | _ => none
 | 20 => match xs with
  | [_, _, _] => some [false, false, false]
  | _ => none
 | _ => none, fun g xs bs => match g with
 | 35 => match xs, bs with
  | [.r (.ro tl__ ql_), .r (.v (.int .i64 n_)), .r (.v (.int .i64 id_))], [] => (castL tl__ T2 ql_).bind fun l_ => some (.one (res_u82 (v_u82 k l_ n_ id_), bo_u82 l_ n_ id_ (v_u82 k l_ n_ id_)))
  | _, _ => none
 | 43 => match xs, bs with
  | [.r (.ro tm__ qm_)], [] => (castL tm__ T0 qm_).bind fun m_ => some (.one (res_u85 (v_u85 k m_), bo_u85 m_ (v_u85 k m_)))
  | _, _ => none
 | 20 => match xs, bs with
  | [.r (.ro tl__ ql_), .r (.v (.int .i64 width_)), .r (.v (.int .i64 length_))], [] => (castL tl__ T2 ql_).bind fun l_ => some (.one (res_u79 (v_u79 k l_ width_ length_), bo_u79 l_ width_ length_ (v_u79 k l_ width_ length_)))
  | _, _ => none
 | _ => none⟩
theorem of_u87 (k : Nat) (l_ : List (T2).T) (web_ : T6.T) (id_ : Int) (r : R_u87) (h : f_u87 k l_ web_ id_ = some r) : CC Tryz.prog 22 (args_u87 l_ web_ id_) (bin_u87 l_ web_ id_) (res_u87 r) (bo_u87 l_ web_ id_ r) := by
 refine CC.of (fn := Tryz.f22) (by kernel_rfl) (by kernel_rfl) (by kernel_rfl) (by kernel_rfl) ?_
 unfold f_u87 at h
 refine Ev.tree hm (R := Rt) (K := (K_u87 k)) (l := []) (C := []) (E := [.autoB [6, 7, 8] true []]) (n := 1000) (T := .need [CC Tryz.prog 20 (args_u79 l_ web_.1 web_.2) (bin_u79 l_ web_.1 web_.2) (res_u79 (v_u79 k l_ web_.1 web_.2)) (bo_u79 l_ web_.1 web_.2 (v_u79 k l_ web_.1 web_.2))] (.test ((v_u79 k l_ web_.1 web_.2 != (0 : Int))) (.leaf (res_u87 ((0, 0, v_u79 k l_ web_.1 web_.2))) (bo_u87 l_ web_ id_ ((0, 0, v_u79 k l_ web_.1 web_.2)))) (.test ((id_ == (0 : Int))) (.leaf (res_u87 ((web_.1, web_.2, 0))) (bo_u87 l_ web_ id_ ((web_.1, web_.2, 0)))) (.need [CC Tryz.prog 35 (args_u82 l_ (↑l_.length : Int) id_) (bin_u82 l_ (↑l_.length : Int) id_) (res_u82 (v_u82 k l_ (↑l_.length : Int) id_)) (bo_u82 l_ (↑l_.length : Int) id_ (v_u82 k l_ (↑l_.length : Int) id_))] (.test ((decide (v_u82 k l_ (↑l_.length : Int) id_ < (0 : Int)))) (.leaf (res_u87 ((0, 0, 7))) (bo_u87 l_ web_ id_ ((0, 0, 7)))) (.need [(0 : Int) ≤ v_u82 k l_ (↑l_.length : Int) id_, v_u82 k l_ (↑l_.length : Int) id_ < (↑l_.length : Int), (0 : Int) ≤ v_u82 k l_ (↑l_.length : Int) id_, v_u82 k l_ (↑l_.length : Int) id_ < (↑l_.length : Int), CC Tryz.prog 43 (args_u85 (l_.getD (Int.toNat (v_u82 k l_ (↑l_.length : Int) id_)) T2.dflt).2.2.2.2.2) (bin_u85 (l_.getD (Int.toNat (v_u82 k l_ (↑l_.length : Int) id_)) T2.dflt).2.2.2.2.2) (res_u85 (v_u85 k (l_.getD (Int.toNat (v_u82 k l_ (↑l_.length : Int) id_)) T2.dflt).2.2.2.2.2)) (bo_u85 (l_.getD (Int.toNat (v_u82 k l_ (↑l_.length : Int) id_)) T2.dflt).2.2.2.2.2 (v_u85 k (l_.getD (Int.toNat (v_u82 k l_ (↑l_.length : Int) id_)) T2.dflt).2.2.2.2.2))] (.leaf (res_u87 (((l_.getD (Int.toNat (v_u82 k l_ (↑l_.length : Int) id_)) T2.dflt).2.2.2.1, v_u85 k (l_.getD (Int.toNat (v_u82 k l_ (↑l_.length : Int) id_)) T2.dflt).2.2.2.2.2, 0))) (bo_u87 l_ web_ id_ (((l_.getD (Int.toNat (v_u82 k l_ (↑l_.length : Int) id_)) T2.dflt).2.2.2.1, v_u85 k (l_.getD (Int.toNat (v_u82 k l_ (↑l_.length : Int) id_)) T2.dflt).2.2.2.2.2, 0)))))))))) (by kernel_rfl) ?_
 by_cases q : ((f_u79 k l_ web_.1 web_.2).isSome = true)
 ·rw [if_pos q] at h
  refine ⟨(conjC (cc_u79 k l_ web_.1 web_.2 q) conj0), ?_⟩
  refine ⟨fun c => ?_, fun c => ?_⟩
  ·rw [cond_t (show ((v_u79 k l_ web_.1 web_.2 != (0 : Int))) = true from c)] at h
   cases h; exact ⟨rfl, rfl⟩
  ·rw [cond_f (show ((v_u79 k l_ web_.1 web_.2 != (0 : Int))) = false from c)] at h
   refine ⟨fun c => ?_, fun c => ?_⟩
   ·rw [cond_t (show ((id_ == (0 : Int))) = true from c)] at h
    cases h; exact ⟨rfl, rfl⟩
   ·rw [cond_f (show ((id_ == (0 : Int))) = false from c)] at h
    by_cases q : ((f_u82 k l_ (↑l_.length : Int) id_).isSome = true)
    ·rw [if_pos q] at h
     refine ⟨(conjC (cc_u82 k l_ (↑l_.length : Int) id_ q) conj0), ?_⟩
     refine ⟨fun c => ?_, fun c => ?_⟩
     ·rw [cond_t (show ((decide (v_u82 k l_ (↑l_.length : Int) id_ < (0 : Int)))) = true from c)] at h
      cases h; exact ⟨rfl, rfl⟩
     ·rw [cond_f (show ((decide (v_u82 k l_ (↑l_.length : Int) id_ < (0 : Int)))) = false from c)] at h
      by_cases q : ((0 : Int) ≤ v_u82 k l_ (↑l_.length : Int) id_) ∧ (v_u82 k l_ (↑l_.length : Int) id_ < (↑l_.length : Int)) ∧ ((0 : Int) ≤ v_u82 k l_ (↑l_.length : Int) id_) ∧ (v_u82 k l_ (↑l_.length : Int) id_ < (↑l_.length : Int)) ∧ ((f_u85 k (l_.getD (Int.toNat (v_u82 k l_ (↑l_.length : Int) id_)) T2.dflt).2.2.2.2.2).isSome = true)
      ·rw [if_pos q] at h
       refine ⟨(conjC q.1 (conjC q.2.1 (conjC q.2.2.1 (conjC q.2.2.2.1 (conjC (cc_u85 k (l_.getD (Int.toNat (v_u82 k l_ (↑l_.length : Int) id_)) T2.dflt).2.2.2.2.2 q.2.2.2.2) conj0))))), ?_⟩
       cases h; exact ⟨rfl, rfl⟩
      ·rw [if_neg q] at h; cases h
    ·rw [if_neg q] at h; cases h
 ·rw [if_neg q] at h; cases h
theorem cc_u87 (k : Nat) (l_ : List (T2).T) (web_ : T6.T) (id_ : Int) (h : (f_u87 k l_ web_ id_).isSome = true) : CC Tryz.prog 22 (args_u87 l_ web_ id_) (bin_u87 l_ web_ id_) (res_u87 (v_u87 k l_ web_ id_)) (bo_u87 l_ web_ id_ (v_u87 k l_ web_ id_)) := by
 cases e : f_u87 k l_ web_ id_ with
 | none => rw [e] at h; cases h
 | some r => rw [show v_u87 k l_ web_ id_ = r by simp [v_u87, e]]; exact of_u87 k l_ web_ id_ r e

end
end Go.AM
namespace Go.AM
open Go Go.Proofs Go.IntKind
set_option linter.unusedVariables false
noncomputable section
abbrev R_u93 : Type := Int
def res_u93 (r : R_u93) : AV := .r (.v (.int .i64 r))
def bo_u93 (l_ : List (T2).T) (web_ : T6.T) (p_ : T4.T) (r : R_u93) : List (Nat × Blk) := []
def args_u93 (l_ : List (T2).T) (web_ : T6.T) (p_ : T4.T) : List AV := [.r (.ro T2 l_), .agg (rvs (enc T6 web_)), .agg (rvs (enc T4 p_))]
def bin_u93 (l_ : List (T2).T) (web_ : T6.T) (p_ : T4.T) : List Blk := []
def f_u93 (k : Nat) (l_ : List (T2).T) (web_ : T6.T) (p_ : T4.T) : Option R_u93 :=
 if ((f_u87 k l_ web_ p_.1).isSome = true) then
 bif ((v_u87 k l_ web_ p_.1).2.2 != (0 : Int)) then
 some ((v_u87 k l_ web_ p_.1).2.2)
 else
 bif (decide (p_.2.1 < (0 : Int)) || decide (p_.2.1 ≥ (v_u87 k l_ web_ p_.1).1)) then
 some 20
 else
 bif (decide (p_.2.2 < (0 : Int)) || decide (p_.2.2 ≥ (v_u87 k l_ web_ p_.1).2.1)) then
 some 21
 else
 some 0
 else none
def v_u93 (k : Nat) (l_ : List (T2).T) (web_ : T6.T) (p_ : T4.T) : R_u93 := (f_u93 k l_ web_ p_).getD 0
def K_u93 (k : Nat) : Calld := ⟨fun g xs => match g with
 | 22 => match xs with
  | [_, _, _] => some [false, false, false]
  | _ => none
 | _ => none, fun g xs bs => match g with
 | 22 => match xs, bs with
  | [.r (.ro tl__ ql_), .agg qweb_, .r (.v (.int .i64 id_))], [] => (castL tl__ T2 ql_).bind fun l_ => (decS [] T6 qweb_).bind fun web_ => some (.one (res_u87 (v_u87 k l_ web_ id_), bo_u87 l_ web_ id_ (v_u87 k l_ web_ id_)))
  | _, _ => none
 | _ => none⟩
theorem of_u93 (k : Nat) (l_ : List (T2).T) (web_ : T6.T) (p_ : T4.T) (r : R_u93) (h : f_u93 k l_ web_ p_ = some r) : CC Tryz.prog 33 (args_u93 l_ web_ p_) (bin_u93 l_ web_ p_) (res_u93 r) (bo_u93 l_ web_ p_ r) := by
 refine CC.of (fn := Tryz.f33) (by kernel_rfl) (by kernel_rfl) (by kernel_rfl) (by kernel_rfl) ?_
 unfold f_u93 at h
 refine Ev.tree hm (R := Rt) (K := (K_u93 k)) (l := []) (C := []) (E := [.autoB [6] true []]) (n := 1000) (T := .need [CC Tryz.prog 22 (args_u87 l_ web_ p_.1) (bin_u87 l_ web_ p_.1) (res_u87 (v_u87 k l_ web_ p_.1)) (bo_u87 l_ web_ p_.1 (v_u87 k l_ web_ p_.1))] (.test (((v_u87 k l_ web_ p_.1).2.2 != (0 : Int))) (.leaf (res_u93 ((v_u87 k l_ web_ p_.1).2.2)) (bo_u93 l_ web_ p_ ((v_u87 k l_ web_ p_.1).2.2))) (.test ((decide (p_.2.1 < (0 : Int)) || decide (p_.2.1 ≥ (v_u87 k l_ web_ p_.1).1))) (.leaf (res_u93 20) (bo_u93 l_ web_ p_ 20)) (.test ((decide (p_.2.2 < (0 : Int)) || decide (p_.2.2 ≥ (v_u87 k l_ web_ p_.1).2.1))) (.leaf (res_u93 21) (bo_u93 l_ web_ p_ 21)) (.leaf (res_u93 0) (bo_u93 l_ web_ p_ 0)))))) (by kernel_rfl) ?_
 by_cases q : ((f_u87 k l_ web_ p_.1).isSome = true)
 ·rw [if_pos q] at h
  refine ⟨(conjC (cc_u87 k l_ web_ p_.1 q) conj0), ?_⟩
  refine ⟨fun c => ?_, fun c => ?_⟩
  ·rw [cond_t (show (((v_u87 k l_ web_ p_.1).2.2 != (0 : Int))) = true from c)] at h
   cases h; exact ⟨rfl, rfl⟩
  ·rw [cond_f (show (((v_u87 k l_ web_ p_.1).2.2 != (0 : Int))) = false from c)] at h
   refine ⟨fun c => ?_, fun c => ?_⟩
   ·rw [cond_t (show ((decide (p_.2.1 < (0 : Int)) || decide (p_.2.1 ≥ (v_u87 k l_ web_ p_.1).1))) = true from c)] at h
    cases h; exact ⟨rfl, rfl⟩
   ·rw [cond_f (show ((decide (p_.2.1 < (0 : Int)) || decide (p_.2.1 ≥ (v_u87 k l_ web_ p_.1).1))) = false from c)] at h
    refine ⟨fun c => ?_, fun c => ?_⟩
    ·rw [cond_t (show ((decide (p_.2.2 < (0 : Int)) || decide (p_.2.2 ≥ (v_u87 k l_ web_ p_.1).2.1))) = true from c)] at h
     cases h; exact ⟨rfl, rfl⟩
    ·rw [cond_f (show ((decide (p_.2.2 < (0 : Int)) || decide (p_.2.2 ≥ (v_u87 k l_ web_ p_.1).2.1))) = false from c)] at h
     cases h; exact ⟨rfl, rfl⟩
 ·rw [if_neg q] at h; cases h
theorem cc_u93 (k : Nat) (l_ : List (T2).T) (web_ : T6.T) (p_ : T4.T) (h : (f_u93 k l_ web_ p_).isSome = true) : CC Tryz.prog 33 (args_u93 l_ web_ p_) (bin_u93 l_ web_ p_) (res_u93 (v_u93 k l_ web_ p_)) (bo_u93 l_ web_ p_ (v_u93 k l_ web_ p_)) := by
 cases e : f_u93 k l_ web_ p_ with
 | none => rw [e] at h; cases h
 | some r => rw [show v_u93 k l_ web_ p_ = r by simp [v_u93, e]]; exact of_u93 k l_ web_ p_ r e

end
end Go.AM
namespace Go.AM
open Go Go.Proofs Go.IntKind
set_option linter.unusedVariables false
noncomputable section
end
end Go.AM
namespace Go.AM
open Go Go.Proofs Go.IntKind
set_option linter.unusedVariables false
noncomputable section
end
end Go.AM
namespace Go.AM
open Go Go.Proofs Go.IntKind
set_option linter.unusedVariables false
noncomputable section
end
end Go.AM
namespace Go.AM
open Go Go.Proofs Go.IntKind

def errS (l : List Ro) (W L id : Int) : Int := if checkS l W L ≠ 0 then checkS l W L else if id ≠ 0 ∧ look l id = none then 7 else 0
structure Kno (l : List Ro) (W L id : Int) : Prop where
 reg : Reg l W L
 kn : id = 0 ∨ ∃ q, look l id = some q
theorem errS_zero {l : List Ro} {W L id : Int} : errS l W L id = 0 ↔ Kno l W L id := by
 unfold errS
 constructor
 ·intro h
  by_cases h1 : checkS l W L = 0
  ·rw [if_neg (fun h : checkS l W L ≠ 0 => h h1)] at h
   refine ⟨checkS_zero.1 h1, ?_⟩
   by_cases h2 : id = 0
   ·exact .inl h2
   ·right
    cases e : look l id with
    | none => rw [if_pos ⟨h2, e⟩] at h; omega
    | some q => exact ⟨q, rfl⟩
  ·rw [if_pos h1] at h; exact absurd h h1
 ·rintro ⟨h1, h2⟩
  rw [if_neg (fun h : checkS l W L ≠ 0 => h (checkS_zero.2 h1)), if_neg (fun h : id ≠ 0 ∧ look l id = none => by
   rcases h2 with h2 | ⟨q, h2⟩
   ·exact h.1 h2
   ·rw [h2] at h; cases h.2)]

theorem fam_find (k : Nat) (hk : 300000 ≤ k) (l : List Ro) (web : Int × Int) (id : Int) : (errS l web.1 web.2 id ≠ 0 → f_u14 k l web id = some (.inl (errS l web.1 web.2 id))) ∧ (errS l web.1 web.2 id = 0 → ∃ M, RegOk M l ∧ Wl l ∧ f_u14 k l web id = some (.inr (0, web.1, web.2, l, M))) := by
 obtain ⟨h1, h2⟩ := fam_open k hk l web
 by_cases h : checkS l web.1 web.2 = 0
 ·obtain ⟨M, m1, m2, e⟩ := h2 h
  have hX : f_u14 k l web id = bif ((0 : Int) == 0 && id != 0) then (if (((0 : Int) == 0 && id != 0) = true) ∧ ((f_u24 k web.1 web.2 l M id).isSome = true) then (bif (true && !v_u24 k web.1 web.2 l M id) then some (.inl 7) else some (.inr (0, web.1, web.2, l, M))) else none) else (if (((0 : Int) == 0 && id != 0) = false) then some (.inr (0, web.1, web.2, l, M)) else none) := by
   unfold f_u14 vA_u15 vB_u15 v_u15
   rw [e]; rfl
  have hkn : v_u24 k web.1 web.2 l M id = (mget I id M).isSome := by unfold v_u24 f_u24; rfl
  rw [hX, hkn]
  unfold errS
  rw [if_neg (fun h' : checkS l web.1 web.2 ≠ 0 => h' h)]
  by_cases h0 : id = 0
  ·rw [show ((0 : Int) == 0 && id != 0) = false by simp [h0], cond_false, if_pos rfl, if_neg (fun h' : id ≠ 0 ∧ look l id = none => h'.1 h0)]
   exact ⟨fun h => absurd rfl h, fun _ => ⟨M, m1, m2, rfl⟩⟩
  ·rw [show ((0 : Int) == 0 && id != 0) = true by simp [h0], cond_true, if_pos (show true = true ∧ (f_u24 k web.1 web.2 l M id).isSome = true from ⟨rfl, rfl⟩)]
   cases e : look l id with
   | none =>
    rw [(m1 id).none e, if_pos (show id ≠ 0 ∧ (none : Option Ro) = none from ⟨h0, rfl⟩)]
    exact ⟨fun _ => rfl, fun h => absurd h (by decide)⟩
   | some q =>
    obtain ⟨i, e1, e2, e3⟩ := (m1 id).some e
    rw [e1, if_neg (fun h : id ≠ 0 ∧ some q = none => nomatch h.2)]
    exact ⟨fun h => absurd rfl h, fun _ => ⟨M, m1, m2, rfl⟩⟩
 ·have hX : f_u14 k l web id = bif (checkS l web.1 web.2 == 0 && id != 0) then none else if (checkS l web.1 web.2 == 0 && id != 0) = false then some (.inl (checkS l web.1 web.2)) else none := by
   unfold f_u14 vA_u15 vB_u15 v_u15
   rw [h1 h]; rfl
  rw [hX]
  unfold errS
  rw [if_pos h, show (checkS l web.1 web.2 == 0) = false from beq_false_of_ne h, Bool.false_and, cond_false, if_pos rfl]
  exact ⟨fun _ => rfl, fun h' => absurd h' h⟩

def sizeE (l : List Ro) (W L id : Int) : Int × Int × Int := if errS l W L id ≠ 0 then (0, 0, errS l W L id) else ((sizeS l W L id).1, (sizeS l W L id).2, 0)
theorem fam_size (k : Nat) (hk : 2100 ≤ k) (W L : Int) (l : List Ro) (M : List (Int × Int)) (id : Int) (hp : Wl l) (hM : RegOk M l) (h : id = 0 ∨ ∃ q, look l id = some q) : f_u27 k W L l M id = some (sizeS l W L id) ∧ v_u27 k W L l M id = sizeS l W L id := by
 have a := fam_size_s k hk W L l [] M id hp hM h
 have b := fam_size_v k hk W L l [] M id hp hM h
 rw [List.append_nil] at a b
 exact ⟨a, b⟩
theorem ref42_Ix (k : Nat) (l : List Ro) (id : Int) (hp : l.length ≤ 100000) (hk : l.length < k) : ∃ o : Option Int, f_u82 k l (l.length : Int) id = some (o.getD (-1)) ∧ v_u82 k l (l.length : Int) id = o.getD (-1) ∧ At l id o := by
 have := ref42_Index_s k l [] id hp hk
 rw [List.append_nil] at this
 exact this
theorem ref42_Size_s (k : Nat) (hk : 300000 ≤ k) (l : List Ro) (web : Int × Int) (id : Int) : f_u87 k l web id = some (sizeE l web.1 web.2 id) := by
 unfold f_u87 sizeE errS
 rw [ref42_Check_s k hk, ref42_Check_v k hk, Option.isSome_some, if_pos rfl]
 by_cases h : checkS l web.1 web.2 = 0
 ·have reg := checkS_zero.1 h
  have hn := reg.num
  rw [show (checkS l web.1 web.2 != 0) = false by simp [h], cond_false, if_neg (fun h' : checkS l web.1 web.2 ≠ 0 => h' h)]
  by_cases h0 : id = 0
  ·rw [show (id == 0) = true by simp [h0], cond_true, if_neg (fun h' : id ≠ 0 ∧ look l id = none => h'.1 h0), if_neg (fun h => h rfl)]
   unfold sizeS
   rw [if_pos h0]
  ·obtain ⟨o, o1, o2, o3⟩ := ref42_Ix k l id (by omega) (by omega)
   rw [show (id == 0) = false by simp [h0], cond_false, o1, o2, Option.isSome_some, if_pos rfl]
   cases e : look l id with
   | none =>
    rw [o3.none e, if_pos (show id ≠ 0 ∧ (none : Option Ro) = none from ⟨h0, rfl⟩)]
    rfl
   | some q =>
    obtain ⟨x, e1, e2, e3⟩ := o3.some e
    have hq := (reg.ok.ro q (look_some e).1).cut.chk
    have hx : (x : Int) < (l.length : Int) := by omega
    have hx0 : (0 : Int) ≤ (x : Int) := by omega
    rw [e1, Option.getD_some, decide_eq_false (by omega : ¬ (x : Int) < 0), cond_false, Int.toNat_natCast, e3, ref42_Long_s k (by omega) _ hq, ref42_Long_v k (by omega) _ hq, if_pos ⟨hx0, hx, hx0, hx, rfl⟩, if_neg (show ¬ (id ≠ 0 ∧ some q = none) from fun h => nomatch h.2), if_neg (fun h => h rfl)]
    unfold sizeS
    rw [if_neg h0, e]
 ·rw [show (checkS l web.1 web.2 != 0) = true from bne_iff_ne.2 h, cond_true, if_pos h, if_pos h]
theorem ref42_Size_v (k : Nat) (hk : 300000 ≤ k) (l : List Ro) (web : Int × Int) (id : Int) : v_u87 k l web id = sizeE l web.1 web.2 id := by
 unfold v_u87; rw [ref42_Size_s k hk l web id]; rfl

theorem on_test (a n : Int) : (decide (a < 0) || decide (a ≥ n)) = decide (a < 0 ∨ a ≥ n) := by
 by_cases h1 : a < 0
 ·rw [decide_eq_true h1, decide_eq_true (Or.inl h1), Bool.true_or]
 ·rw [decide_eq_false h1, Bool.false_or]
  by_cases h2 : a ≥ n
  ·rw [decide_eq_true h2, decide_eq_true (Or.inr h2)]
  ·rw [decide_eq_false h2, decide_eq_false (fun h => by rcases h with h | h; exact h1 h; exact h2 h)]
theorem on_bif (l : List Ro) (W L : Int) (p : Pt) : (bif (decide (p.2.1 < 0) || decide (p.2.1 ≥ (sizeS l W L p.1).1)) then some 20 else bif (decide (p.2.2 < 0) || decide (p.2.2 ≥ (sizeS l W L p.1).2)) then some 21 else some 0) = some (onS l W L p) := by
 unfold onS
 rw [on_test, on_test]
 by_cases h1 : p.2.1 < 0 ∨ p.2.1 ≥ (sizeS l W L p.1).1
 ·rw [decide_eq_true h1, if_pos h1]; rfl
 ·rw [decide_eq_false h1, if_neg h1, cond_false]
  by_cases h2 : p.2.2 < 0 ∨ p.2.2 ≥ (sizeS l W L p.1).2
  ·rw [decide_eq_true h2, if_pos h2]; rfl
  ·rw [decide_eq_false h2, if_neg h2]; rfl
theorem fam_on_s (k : Nat) (hk : 2100 ≤ k) (W L : Int) (l : List Ro) (M : List (Int × Int)) (p : Pt) (hp : Wl l) (hM : RegOk M l) (h : p.1 = 0 ∨ ∃ q, look l p.1 = some q) : f_u26 k W L l M p = some (onS l W L p) := by
 obtain ⟨a, b⟩ := fam_size k hk W L l M p.1 hp hM h
 unfold f_u26
 rw [a, b, Option.isSome_some, if_pos rfl]
 exact on_bif l W L p
theorem fam_on_v (k : Nat) (hk : 2100 ≤ k) (W L : Int) (l : List Ro) (M : List (Int × Int)) (p : Pt) (hp : Wl l) (hM : RegOk M l) (h : p.1 = 0 ∨ ∃ q, look l p.1 = some q) : v_u26 k W L l M p = onS l W L p := by
 unfold v_u26; rw [fam_on_s k hk W L l M p hp hM h]; rfl
def onE (l : List Ro) (W L : Int) (p : Pt) : Int := if errS l W L p.1 ≠ 0 then errS l W L p.1 else onS l W L p
theorem ref42_on_s (k : Nat) (hk : 300000 ≤ k) (l : List Ro) (web : Int × Int) (p : Pt) : f_u93 k l web p = some (onE l web.1 web.2 p) := by
 unfold f_u93 onE
 rw [ref42_Size_s k hk, ref42_Size_v k hk, Option.isSome_some, if_pos rfl]
 unfold sizeE
 by_cases h : errS l web.1 web.2 p.1 = 0
 ·rw [if_neg (fun h' : errS l web.1 web.2 p.1 ≠ 0 => h' h), if_neg (fun h' : errS l web.1 web.2 p.1 ≠ 0 => h' h)]
  exact on_bif l web.1 web.2 p
 ·rw [if_pos h, if_pos h]
  show (bif (errS l web.1 web.2 p.1 != 0) then _ else _) = _
  rw [bne_iff_ne.2 h]; rfl
theorem ref42_on_v (k : Nat) (hk : 300000 ≤ k) (l : List Ro) (web : Int × Int) (p : Pt) : v_u93 k l web p = onE l web.1 web.2 p := by
 unfold v_u93; rw [ref42_on_s k hk l web p]; rfl

theorem slit_Place_s (k : Nat) (hk : 304 ≤ k) (c : Ch) (x y : Int) (h0 : 0 ≤ c.1) (h1 : 1 ≤ c.2.1) (h2 : c.1 + c.2.1 ≤ 12000) (h3 : Chk c.2.2.2) (x0 : 0 ≤ x) (x1 : x < c.2.1) (y0 : 0 ≤ y) (y1 : y < lenS c.2.2.2) :
  f_u102 k c x y = some ((if c.2.2.1 = true then c.1 + c.2.1 - 1 - x else c.1 + x), imgAt c.2.2.2 y, 0) := by
 have hl := h3.len
 have hlies : f_u104 k (c.1, c.2.1) 12000 = some true := by
  unfold f_u104
  show some (decide (c.1 ≥ 0) && decide (c.2.1 ≥ 1) && decide (c.1 ≤ 12000) && decide (c.2.1 ≤ i64.wrap (12000 - c.1))) = _
  rw [wrap_id (by omega) (by omega), decide_eq_true (by omega : c.1 ≥ 0), decide_eq_true (by omega : c.2.1 ≥ 1), decide_eq_true (by omega : c.1 ≤ 12000), decide_eq_true (by omega : c.2.1 ≤ 12000 - c.1)]; rfl
 have ht : f_u103 k c = some (.inr (c.1, c.2.1, !c.2.2.1, 0, c.2.2.2)) := by
  unfold f_u103 v_u104
  rw [hlies, iso_Check_s k (by omega), iso_Check_v k (by omega), chk_zero.2 h3]
  show (if (f_u96 k c.2.2.2).isSome = true then some (Sum.inr (c.1, c.2.1, !c.2.2.1, (0 : Int), v_u96 k c.2.2.2)) else none) = _
  have hc : f_u96 k c.2.2.2 = some c.2.2.2 := by unfold f_u96; rw [if_pos (by omega)]
  unfold v_u96
  rw [hc]; rfl
 have hat : atS c.2.2.2 y = (imgAt c.2.2.2 y, 0) := by unfold atS; rw [if_neg (fun h => h (chk_zero.2 h3)), if_neg (by omega)]
 unfold f_u102 vB_u103 v_u103
 rw [ht]
 show (bif (decide (x < (0 : Int)) || decide (x ≥ c.2.1)) then _ else if (f_u30 k c.2.2.2 y).isSome = true then (bif ((v_u30 k c.2.2.2 y).2 != 0) then _ else bif c.2.2.1 then some (i64.wrap (c.1 + i64.wrap (i64.wrap (c.2.1 - 1) - x)), (v_u30 k c.2.2.2 y).1, (0 : Int)) else some (i64.wrap (c.1 + x), (v_u30 k c.2.2.2 y).1, (0 : Int))) else none) = _
 rw [decide_eq_false (by omega : ¬ x < 0), decide_eq_false (by omega : ¬ x ≥ c.2.1), Bool.or_false, cond_false, iso_At_s k hk, iso_At_v k hk, hat]
 show (bif c.2.2.1 then some (i64.wrap (c.1 + i64.wrap (i64.wrap (c.2.1 - 1) - x)), imgAt c.2.2.2 y, (0 : Int)) else some (i64.wrap (c.1 + x), imgAt c.2.2.2 y, (0 : Int))) = _
 rw [wrap_id (i := c.2.1 - 1) (by omega) (by omega), wrap_id (i := c.2.1 - 1 - x) (by omega) (by omega), wrap_id (i := c.1 + (c.2.1 - 1 - x)) (by omega) (by omega), wrap_id (i := c.1 + x) (by omega) (by omega)]
 cases c.2.2.1
 ·rfl
 ·rw [cond_true, if_pos rfl, show c.1 + (c.2.1 - 1 - x) = c.1 + c.2.1 - 1 - x by omega]
theorem fam_parent_s (k : Nat) (hk : 304 ≤ k) (r : Ro) (p : Pt) (s : Small r.2.2) (x0 : 0 ≤ p.2.1) (x1 : p.2.1 < r.2.2.2.1) (y0 : 0 ≤ p.2.2) (y1 : p.2.2 < lenS r.2.2.2.2.2) : f_u17 k r p = some (placeS r p) := by
 obtain ⟨a, b, c, d⟩ := s
 have h := slit_Place_s k hk r.2.2 p.2.1 p.2.2 a b c d x0 x1 y0 y1
 unfold f_u17 v_u102
 rw [h]; rfl
theorem fam_parent_v (k : Nat) (hk : 304 ≤ k) (r : Ro) (p : Pt) (s : Small r.2.2) (x0 : 0 ≤ p.2.1) (x1 : p.2.1 < r.2.2.2.1) (y0 : 0 ≤ p.2.2) (y1 : p.2.2 < lenS r.2.2.2.2.2) : v_u17 k r p = placeS r p := by
 unfold v_u17; rw [fam_parent_s k hk r p s x0 x1 y0 y1]; rfl
theorem Reg.wl {l : List Ro} {W L : Int} (h : Reg l W L) : Wl l := fun r hr => by
 have ro := h.ok.ro r hr
 obtain ⟨c1, c2, c3, c4, _⟩ := ro.cut
 have := h.small 512 r.2.1 (h.anc ro.parent)
 exact ⟨c1, c2, by omega, c4⟩

theorem size_some {l : List Ro} {W L id : Int} {r : Ro} (h0 : id ≠ 0) (e : look l id = some r) : sizeS l W L id = (r.2.2.2.1, lenS r.2.2.2.2.2) := by
 unfold sizeS; rw [if_neg h0, e]

def upS (l : List Ro) (W L : Int) (p : Pt) : Pt × Int :=
 if errS l W L p.1 ≠ 0 then ((0, 0, 0), errS l W L p.1) else if p.1 = 0 then ((0, 0, 0), 7) else if onS l W L p ≠ 0 then ((0, 0, 0), onS l W L p)
 else match look l p.1 with
  | none => ((0, 0, 0), 0)
  | some r => (placeS r p, 0)
theorem fam_Up_s (k : Nat) (hk : 300000 ≤ k) (l : List Ro) (web : Int × Int) (p : Pt) : f_u10 k l web p = some (upS l web.1 web.2 p) := by
 obtain ⟨h1, h2⟩ := fam_find k hk l web p.1
 unfold f_u10 vA_u14 vB_u14 v_u14 upS
 by_cases h : errS l web.1 web.2 p.1 = 0
 ·obtain ⟨M, m1, m2, e⟩ := h2 h
  have kn := (errS_zero.1 h).kn
  have a := fam_on_s k (by omega) web.1 web.2 l M p m2 m1 kn
  have b := fam_on_v k (by omega) web.1 web.2 l M p m2 m1 kn
  rw [e, if_neg (fun h' : errS l web.1 web.2 p.1 ≠ 0 => h' h)]
  show (bif (p.1 == 0) then some (((0 : Int), ((0 : Int), (0 : Int))), (7 : Int)) else if (f_u26 k web.1 web.2 l M p).isSome = true then (bif (v_u26 k web.1 web.2 l M p != 0) then some (((0 : Int), ((0 : Int), (0 : Int))), v_u26 k web.1 web.2 l M p) else if ((0 : Int) ≤ (mget I p.1 M).getD 0) ∧ ((mget I p.1 M).getD 0 < (l.length : Int)) ∧ ((f_u17 k (l.getD (Int.toNat ((mget I p.1 M).getD 0)) T2.dflt) p).isSome = true) then some (v_u17 k (l.getD (Int.toNat ((mget I p.1 M).getD 0)) T2.dflt) p, (0 : Int)) else none) else none) = _
  by_cases h0 : p.1 = 0
  ·rw [show (p.1 == 0) = true from beq_iff_eq.2 h0, if_pos h0]; rfl
  ·rw [show (p.1 == 0) = false from beq_false_of_ne h0, if_neg h0, cond_false, a, b, Option.isSome_some, if_pos rfl]
   by_cases ho : onS l web.1 web.2 p = 0
   ·rw [if_neg (fun h' : onS l web.1 web.2 p ≠ 0 => h' ho), ho]
    rcases kn with kn | ⟨q, kn⟩
    ·exact absurd kn h0
    ·obtain ⟨x, e1, e2, e3⟩ := (m1 p.1).some kn
     have on := onS_zero.1 ho
     obtain ⟨a0, a1, b0, b1⟩ := on
     rw [size_some h0 kn] at a1 b1
     have hs := m2 q (look_some kn).1
     rw [e1, Option.getD_some, Int.toNat_natCast, e3, fam_parent_s k (by omega) q p hs a0 a1 b0 b1, fam_parent_v k (by omega) q p hs a0 a1 b0 b1, if_pos ⟨by omega, by omega, rfl⟩, kn]
     rfl
   ·rw [if_pos ho, bne_iff_ne.2 ho]; rfl
 ·rw [h1 h, if_pos h]
  show (bif (errS l web.1 web.2 p.1 != 0) then _ else _) = _
  rw [bne_iff_ne.2 h]; rfl
theorem fam_Up_v (k : Nat) (hk : 300000 ≤ k) (l : List Ro) (web : Int × Int) (p : Pt) : v_u10 k l web p = upS l web.1 web.2 p := by
 unfold v_u10; rw [fam_Up_s k hk l web p]; rfl
theorem fam_up_l (k : Nat) (hk : 304 ≤ k) (W L : Int) (l : List Ro) (reg : Reg l W L) (M : List (Int × Int)) (hM : RegOk M l) (p0 : Pt) (z : Int) : ∀ (n : Nat) (p : Pt) (j : Nat), Anc l n p.1 → On l W L p → n < j →
  f_u29_0 k p0 z W L l M j p p.1 = some (webS l n p, 0) := by
 intro n
 induction n with
 | zero =>
  intro p j ha ho hj
  obtain ⟨j, rfl⟩ : ∃ q, j = q + 1 := ⟨j - 1, by omega⟩
  have h0 : p.1 = 0 := by
   generalize hp : p.1 = id at ha
   cases ha with
   | root => rfl
  rw [f_u29_0, h0]; rfl
 | succ n ih =>
  intro p j ha ho hj
  obtain ⟨j, rfl⟩ : ∃ q, j = q + 1 := ⟨j - 1, by omega⟩
  rw [f_u29_0]
  by_cases h0 : p.1 = 0
  ·rw [h0]
   unfold webS
   rw [if_pos h0]; rfl
  ·unfold webS
   rw [if_neg h0, bne_iff_ne.2 h0, cond_true]
   have hx : ∃ r, look l p.1 = some r ∧ Anc l n r.2.1 := by
    generalize hp : p.1 = id at ha
    cases ha with
    | root => exact absurd hp h0
    | step _ _ r _ e a => exact ⟨r, e, a⟩
   obtain ⟨r, e, a⟩ := hx
   have hr := (look_some e).1
   have ho2 := ho.place h0 e (reg.ok.ro r hr)
   obtain ⟨x, e1, e2, e3⟩ := (hM p.1).some e
   obtain ⟨a0, a1, b0, b1⟩ := ho
   rw [size_some h0 e] at a1 b1
   have hs := reg.wl r hr
   have hx : (x : Int) < (l.length : Int) := by omega
   have hf : f_u2 k p r = some (placeS r p) := by
    unfold f_u2
    rw [fam_parent_s k hk r p hs a0 a1 b0 b1, fam_parent_v k hk r p hs a0 a1 b0 b1]; rfl
   have hv : v_u2 k p r = placeS r p := by unfold v_u2; rw [hf]; rfl
   rw [e, e1, Option.getD_some, Int.toNat_natCast, e3, hf, hv, if_pos ⟨by omega, hx⟩, Option.isSome_some, if_pos rfl]
   exact ih (placeS r p) j a ho2 (by omega)
def webE (l : List Ro) (W L : Int) (p : Pt) : Pt × Int := if onE l W L p ≠ 0 then ((0, 0, 0), onE l W L p) else (webS l 512 p, 0)
theorem fam_Web_s (k : Nat) (hk : 300000 ≤ k) (l : List Ro) (web : Int × Int) (p : Pt) : f_u11 k l web p = some (webE l web.1 web.2 p) := by
 obtain ⟨h1, h2⟩ := fam_find k hk l web p.1
 unfold f_u11 vA_u14 vB_u14 v_u14 webE onE
 by_cases h : errS l web.1 web.2 p.1 = 0
 ·obtain ⟨M, m1, m2, e⟩ := h2 h
  obtain ⟨reg, kn⟩ := errS_zero.1 h
  have a := fam_on_s k (by omega) web.1 web.2 l M p m2 m1 kn
  have b := fam_on_v k (by omega) web.1 web.2 l M p m2 m1 kn
  have hi : ¬ (errS l web.1 web.2 p.1 ≠ 0) := fun h' => h' h
  rw [e, if_neg hi]
  show (if (f_u26 k web.1 web.2 l M p).isSome = true then (bif (v_u26 k web.1 web.2 l M p != 0) then some (((0 : Int), ((0 : Int), (0 : Int))), v_u26 k web.1 web.2 l M p) else if (f_u28 k web.1 web.2 l M p.1).isSome = true then (if (f_u29 k p (v_u28 k web.1 web.2 l M p.1) web.1 web.2 l M).isSome = true then some ((v_u29 k p (v_u28 k web.1 web.2 l M p.1) web.1 web.2 l M).1, (0 : Int)) else none) else none) else none) = _
  rw [a, b, Option.isSome_some, if_pos rfl]
  by_cases ho : onS l web.1 web.2 p = 0
  ·have hu : f_u29 k p (v_u28 k web.1 web.2 l M p.1) web.1 web.2 l M = some (webS l 512 p, 0) := by
    unfold f_u29
    exact fam_up_l k (by omega) web.1 web.2 l reg M m1 p _ 512 p k (reg.anc kn) (onS_zero.1 ho) (by omega)
   unfold v_u29
   rw [hu, ho]; rfl
  ·rw [if_pos ho, bne_iff_ne.2 ho]; rfl
 ·rw [h1 h, if_pos h, if_pos h]
  show (bif (errS l web.1 web.2 p.1 != 0) then _ else _) = _
  rw [bne_iff_ne.2 h]; rfl
theorem fam_Web_v (k : Nat) (hk : 300000 ≤ k) (l : List Ro) (web : Int × Int) (p : Pt) : v_u11 k l web p = webE l web.1 web.2 p := by
 unfold v_u11; rw [fam_Web_s k hk l web p]; rfl
end Go.AM
namespace Go.AM
open Go Go.Proofs Go.IntKind
set_option linter.unusedVariables false
noncomputable section
abbrev R_u18 : Type := T1.T × Int
def res_u18 (r : R_u18) : AV := .tup [.agg (rvs (enc T1 r.1)), .r (.v (.int .i64 r.2))]
def bo_u18 (g_0 : Int) (g_1 : Int) (g_2 : List (T2).T) (g_3 : List ((I).T × (I).T)) (id_ : Int) (r : R_u18) : List (Nat × Blk) := [(0, .var 73 [.r (.v (.int .i64 g_0)), .r (.v (.int .i64 g_1)), .r (.ro T2 g_2), .own 1 0]), (0, .map false I I g_3)]
def args_u18 (g_0 : Int) (g_1 : Int) (g_2 : List (T2).T) (g_3 : List ((I).T × (I).T)) (id_ : Int) : List AV := [.ptr 0 0 0, .r (.v (.int .i64 id_))]
def bin_u18 (g_0 : Int) (g_1 : Int) (g_2 : List (T2).T) (g_3 : List ((I).T × (I).T)) (id_ : Int) : List Blk := [.var 73 [.r (.v (.int .i64 g_0)), .r (.v (.int .i64 g_1)), .r (.ro T2 g_2), .own 1 0], .map false I I g_3]
def w_u18 (g : Int → Int → List (T2).T → (List ((I).T × (I).T)) → Int → Option R_u18) (g_0 : Int) (g_1 : Int) (g_2 : List (T2).T) (g_3 : List ((I).T × (I).T)) (id_ : Int) : R_u18 := (g g_0 g_1 g_2 g_3 id_).getD ((T1).dflt, 0)
def f_u18 : Nat → Int → Int → List (T2).T → (List ((I).T × (I).T)) → Int → Option R_u18
 | 0, _, _, _, _, _ => none
 | k + 1, g_0, g_1, g_2, g_3, id_ =>
 bif (id_ == (0 : Int)) then
 bif (decide (g_1 > (0 : Int))) then
 some (((0, (g_0, (false, [(0, g_1, false)]))), 0))
 else
 some (((0, (g_0, (false, []))), 0))
 else
 if ((0 : Int) ≤ (mget I id_ g_3).getD (0 : Int)) ∧ ((mget I id_ g_3).getD (0 : Int) < (↑g_2.length : Int)) then
 if ((f_u18 k g_0 g_1 g_2 g_3 (g_2.getD (Int.toNat ((mget I id_ g_3).getD 0)) T2.dflt).2.1).isSome = true) then
 bif ((w_u18 (f_u18 k) g_0 g_1 g_2 g_3 (g_2.getD (Int.toNat ((mget I id_ g_3).getD (0 : Int))) T2.dflt).2.1).2 != (0 : Int)) then
 some (((0, (0, (false, []))), (w_u18 (f_u18 k) g_0 g_1 g_2 g_3 (g_2.getD (Int.toNat ((mget I id_ g_3).getD 0)) T2.dflt).2.1).2))
 else
 if ((f_u33 k (g_2.getD (Int.toNat ((mget I id_ g_3).getD 0)) T2.dflt).2.2.2.2.2 (w_u18 (f_u18 k) g_0 g_1 g_2 g_3 (g_2.getD (Int.toNat ((mget I id_ g_3).getD 0)) T2.dflt).2.1).1.2.2.2).isSome = true) then
 bif ((v_u33 k (g_2.getD (Int.toNat ((mget I id_ g_3).getD (0 : Int))) T2.dflt).2.2.2.2.2 (w_u18 (f_u18 k) g_0 g_1 g_2 g_3 (g_2.getD (Int.toNat ((mget I id_ g_3).getD (0 : Int))) T2.dflt).2.1).1.2.2.2).2 != (0 : Int)) then
 some (((0, (0, (false, []))), (v_u33 k (g_2.getD (Int.toNat ((mget I id_ g_3).getD 0)) T2.dflt).2.2.2.2.2 (w_u18 (f_u18 k) g_0 g_1 g_2 g_3 (g_2.getD (Int.toNat ((mget I id_ g_3).getD 0)) T2.dflt).2.1).1.2.2.2).2))
 else
 bif (w_u18 (f_u18 k) g_0 g_1 g_2 g_3 (g_2.getD (Int.toNat ((mget I id_ g_3).getD (0 : Int))) T2.dflt).2.1).1.2.2.1 then
 some (((i64.wrap (i64.wrap (i64.wrap ((w_u18 (f_u18 k) g_0 g_1 g_2 g_3 (g_2.getD (Int.toNat ((mget I id_ g_3).getD 0)) T2.dflt).2.1).1.1 + (w_u18 (f_u18 k) g_0 g_1 g_2 g_3 (g_2.getD (Int.toNat ((mget I id_ g_3).getD 0)) T2.dflt).2.1).1.2.1) - (g_2.getD (Int.toNat ((mget I id_ g_3).getD 0)) T2.dflt).2.2.1) - (g_2.getD (Int.toNat ((mget I id_ g_3).getD 0)) T2.dflt).2.2.2.1), ((g_2.getD (Int.toNat ((mget I id_ g_3).getD 0)) T2.dflt).2.2.2.1, (! (w_u18 (f_u18 k) g_0 g_1 g_2 g_3 (g_2.getD (Int.toNat ((mget I id_ g_3).getD 0)) T2.dflt).2.1).1.2.2.1 == (g_2.getD (Int.toNat ((mget I id_ g_3).getD 0)) T2.dflt).2.2.2.2.1, (v_u33 k (g_2.getD (Int.toNat ((mget I id_ g_3).getD 0)) T2.dflt).2.2.2.2.2 (w_u18 (f_u18 k) g_0 g_1 g_2 g_3 (g_2.getD (Int.toNat ((mget I id_ g_3).getD 0)) T2.dflt).2.1).1.2.2.2).1))), 0))
 else
 some (((i64.wrap ((w_u18 (f_u18 k) g_0 g_1 g_2 g_3 (g_2.getD (Int.toNat ((mget I id_ g_3).getD 0)) T2.dflt).2.1).1.1 + (g_2.getD (Int.toNat ((mget I id_ g_3).getD 0)) T2.dflt).2.2.1), ((g_2.getD (Int.toNat ((mget I id_ g_3).getD 0)) T2.dflt).2.2.2.1, (! (w_u18 (f_u18 k) g_0 g_1 g_2 g_3 (g_2.getD (Int.toNat ((mget I id_ g_3).getD 0)) T2.dflt).2.1).1.2.2.1 == (g_2.getD (Int.toNat ((mget I id_ g_3).getD 0)) T2.dflt).2.2.2.2.1, (v_u33 k (g_2.getD (Int.toNat ((mget I id_ g_3).getD 0)) T2.dflt).2.2.2.2.2 (w_u18 (f_u18 k) g_0 g_1 g_2 g_3 (g_2.getD (Int.toNat ((mget I id_ g_3).getD 0)) T2.dflt).2.1).1.2.2.2).1))), 0))
 else none
 else none
 else none
def v_u18 (k : Nat) (g_0 : Int) (g_1 : Int) (g_2 : List (T2).T) (g_3 : List ((I).T × (I).T)) (id_ : Int) : R_u18 := (f_u18 k g_0 g_1 g_2 g_3 id_).getD ((T1).dflt, 0)
def K_u18 (k : Nat) : Calld := ⟨fun g xs => match g with
 | 53 => match xs with
  | [_, _] => some [false, false]
  | _ => none
 | 37 => match xs with
  | [.ptr _ _ _, _] => some [true, false]
  | _ => none
 | _ => none, fun g xs bs => match g with
 | 53 => match xs, bs with
  | [.r (.ro tinner__ qinner_), .r (.ro touter__ qouter_)], [] => (castL tinner__ T0 qinner_).bind fun inner_ => (castL touter__ T0 qouter_).bind fun outer_ => some (.one (res_u33 (v_u33 k inner_ outer_), bo_u33 inner_ outer_ (v_u33 k inner_ outer_)))
  | _, _ => none
 | 37 => match xs, bs with
  | [.ptr 0 0 0, .r (.v (.int .i64 id_))], [.var 73 [.r (.v (.int .i64 g_0)), .r (.v (.int .i64 g_1)), .r (.ro tg_2_ qg_2), .own 1 0], .map false kg_3_ tg_3_ qg_3] => (castL tg_2_ T2 qg_2).bind fun g_2 => (castM kg_3_ tg_3_ I I qg_3).bind fun g_3 => some (.one (res_u18 (v_u18 k g_0 g_1 g_2 g_3 id_), bo_u18 g_0 g_1 g_2 g_3 id_ (v_u18 k g_0 g_1 g_2 g_3 id_)))
  | _, _ => none
 | _ => none⟩
theorem of_u18 : ∀ (k : Nat) (g_0 : Int) (g_1 : Int) (g_2 : List (T2).T) (g_3 : List ((I).T × (I).T)) (id_ : Int) (r : R_u18), f_u18 k g_0 g_1 g_2 g_3 id_ = some r → CC Tryz.prog 37 (args_u18 g_0 g_1 g_2 g_3 id_) (bin_u18 g_0 g_1 g_2 g_3 id_) (res_u18 r) (bo_u18 g_0 g_1 g_2 g_3 id_ r)
 | 0, g_0, g_1, g_2, g_3, id_, r, h => by simp [f_u18] at h
 | k + 1, g_0, g_1, g_2, g_3, id_, r, h => by
  have ih : ∀ (g_0 : Int) (g_1 : Int) (g_2 : List (T2).T) (g_3 : List ((I).T × (I).T)) (id_ : Int), (f_u18 k g_0 g_1 g_2 g_3 id_).isSome = true → CC Tryz.prog 37 (args_u18 g_0 g_1 g_2 g_3 id_) (bin_u18 g_0 g_1 g_2 g_3 id_) (res_u18 (v_u18 k g_0 g_1 g_2 g_3 id_)) (bo_u18 g_0 g_1 g_2 g_3 id_ (v_u18 k g_0 g_1 g_2 g_3 id_)) := fun g_0 g_1 g_2 g_3 id_ h => by
   cases e : f_u18 k g_0 g_1 g_2 g_3 id_ with
   | none => rw [e] at h; cases h
   | some r => rw [show v_u18 k g_0 g_1 g_2 g_3 id_ = r by simp [v_u18, e]]; exact of_u18 k g_0 g_1 g_2 g_3 id_ r e
  refine CC.of (fn := Tryz.f37) (by kernel_rfl) (by kernel_rfl) (by kernel_rfl) (by kernel_rfl) ?_
  rw [f_u18] at h
  refine Ev.tree hm (R := Rt) (K := (K_u18 k)) (l := []) (C := []) (E := [.frz 4 true T1, .autoB [4, 5] true []]) (n := 1000) (T := .test ((id_ == (0 : Int))) (.test ((decide (g_1 > (0 : Int)))) (.leaf (res_u18 (((0, (g_0, (false, [(0, g_1, false)]))), 0))) (bo_u18 g_0 g_1 g_2 g_3 id_ (((0, (g_0, (false, [(0, g_1, false)]))), 0)))) (.leaf (res_u18 (((0, (g_0, (false, []))), 0))) (bo_u18 g_0 g_1 g_2 g_3 id_ (((0, (g_0, (false, []))), 0))))) (.need [(0 : Int) ≤ (mget I id_ g_3).getD (0 : Int), (mget I id_ g_3).getD (0 : Int) < (↑g_2.length : Int)] (.need [CC Tryz.prog 37 (args_u18 g_0 g_1 g_2 g_3 (g_2.getD (Int.toNat ((mget I id_ g_3).getD 0)) T2.dflt).2.1) (bin_u18 g_0 g_1 g_2 g_3 (g_2.getD (Int.toNat ((mget I id_ g_3).getD 0)) T2.dflt).2.1) (res_u18 (v_u18 k g_0 g_1 g_2 g_3 (g_2.getD (Int.toNat ((mget I id_ g_3).getD 0)) T2.dflt).2.1)) (bo_u18 g_0 g_1 g_2 g_3 (g_2.getD (Int.toNat ((mget I id_ g_3).getD 0)) T2.dflt).2.1 (v_u18 k g_0 g_1 g_2 g_3 (g_2.getD (Int.toNat ((mget I id_ g_3).getD 0)) T2.dflt).2.1))] (.test (((v_u18 k g_0 g_1 g_2 g_3 (g_2.getD (Int.toNat ((mget I id_ g_3).getD (0 : Int))) T2.dflt).2.1).2 != (0 : Int))) (.leaf (res_u18 (((0, (0, (false, []))), (v_u18 k g_0 g_1 g_2 g_3 (g_2.getD (Int.toNat ((mget I id_ g_3).getD 0)) T2.dflt).2.1).2))) (bo_u18 g_0 g_1 g_2 g_3 id_ (((0, (0, (false, []))), (v_u18 k g_0 g_1 g_2 g_3 (g_2.getD (Int.toNat ((mget I id_ g_3).getD 0)) T2.dflt).2.1).2)))) (.need [CC Tryz.prog 53 (args_u33 (g_2.getD (Int.toNat ((mget I id_ g_3).getD 0)) T2.dflt).2.2.2.2.2 (v_u18 k g_0 g_1 g_2 g_3 (g_2.getD (Int.toNat ((mget I id_ g_3).getD 0)) T2.dflt).2.1).1.2.2.2) (bin_u33 (g_2.getD (Int.toNat ((mget I id_ g_3).getD 0)) T2.dflt).2.2.2.2.2 (v_u18 k g_0 g_1 g_2 g_3 (g_2.getD (Int.toNat ((mget I id_ g_3).getD 0)) T2.dflt).2.1).1.2.2.2) (res_u33 (v_u33 k (g_2.getD (Int.toNat ((mget I id_ g_3).getD 0)) T2.dflt).2.2.2.2.2 (v_u18 k g_0 g_1 g_2 g_3 (g_2.getD (Int.toNat ((mget I id_ g_3).getD 0)) T2.dflt).2.1).1.2.2.2)) (bo_u33 (g_2.getD (Int.toNat ((mget I id_ g_3).getD 0)) T2.dflt).2.2.2.2.2 (v_u18 k g_0 g_1 g_2 g_3 (g_2.getD (Int.toNat ((mget I id_ g_3).getD 0)) T2.dflt).2.1).1.2.2.2 (v_u33 k (g_2.getD (Int.toNat ((mget I id_ g_3).getD 0)) T2.dflt).2.2.2.2.2 (v_u18 k g_0 g_1 g_2 g_3 (g_2.getD (Int.toNat ((mget I id_ g_3).getD 0)) T2.dflt).2.1).1.2.2.2))] (.test (((v_u33 k (g_2.getD (Int.toNat ((mget I id_ g_3).getD (0 : Int))) T2.dflt).2.2.2.2.2 (v_u18 k g_0 g_1 g_2 g_3 (g_2.getD (Int.toNat ((mget I id_ g_3).getD (0 : Int))) T2.dflt).2.1).1.2.2.2).2 != (0 : Int))) (.leaf (res_u18 (((0, (0, (false, []))), (v_u33 k (g_2.getD (Int.toNat ((mget I id_ g_3).getD 0)) T2.dflt).2.2.2.2.2 (v_u18 k g_0 g_1 g_2 g_3 (g_2.getD (Int.toNat ((mget I id_ g_3).getD 0)) T2.dflt).2.1).1.2.2.2).2))) (bo_u18 g_0 g_1 g_2 g_3 id_ (((0, (0, (false, []))), (v_u33 k (g_2.getD (Int.toNat ((mget I id_ g_3).getD 0)) T2.dflt).2.2.2.2.2 (v_u18 k g_0 g_1 g_2 g_3 (g_2.getD (Int.toNat ((mget I id_ g_3).getD 0)) T2.dflt).2.1).1.2.2.2).2)))) (.test ((v_u18 k g_0 g_1 g_2 g_3 (g_2.getD (Int.toNat ((mget I id_ g_3).getD (0 : Int))) T2.dflt).2.1).1.2.2.1) (.leaf (res_u18 (((i64.wrap (i64.wrap (i64.wrap ((v_u18 k g_0 g_1 g_2 g_3 (g_2.getD (Int.toNat ((mget I id_ g_3).getD 0)) T2.dflt).2.1).1.1 + (v_u18 k g_0 g_1 g_2 g_3 (g_2.getD (Int.toNat ((mget I id_ g_3).getD 0)) T2.dflt).2.1).1.2.1) - (g_2.getD (Int.toNat ((mget I id_ g_3).getD 0)) T2.dflt).2.2.1) - (g_2.getD (Int.toNat ((mget I id_ g_3).getD 0)) T2.dflt).2.2.2.1), ((g_2.getD (Int.toNat ((mget I id_ g_3).getD 0)) T2.dflt).2.2.2.1, (! (v_u18 k g_0 g_1 g_2 g_3 (g_2.getD (Int.toNat ((mget I id_ g_3).getD 0)) T2.dflt).2.1).1.2.2.1 == (g_2.getD (Int.toNat ((mget I id_ g_3).getD 0)) T2.dflt).2.2.2.2.1, (v_u33 k (g_2.getD (Int.toNat ((mget I id_ g_3).getD 0)) T2.dflt).2.2.2.2.2 (v_u18 k g_0 g_1 g_2 g_3 (g_2.getD (Int.toNat ((mget I id_ g_3).getD 0)) T2.dflt).2.1).1.2.2.2).1))), 0))) (bo_u18 g_0 g_1 g_2 g_3 id_ (((i64.wrap (i64.wrap (i64.wrap ((v_u18 k g_0 g_1 g_2 g_3 (g_2.getD (Int.toNat ((mget I id_ g_3).getD 0)) T2.dflt).2.1).1.1 + (v_u18 k g_0 g_1 g_2 g_3 (g_2.getD (Int.toNat ((mget I id_ g_3).getD 0)) T2.dflt).2.1).1.2.1) - (g_2.getD (Int.toNat ((mget I id_ g_3).getD 0)) T2.dflt).2.2.1) - (g_2.getD (Int.toNat ((mget I id_ g_3).getD 0)) T2.dflt).2.2.2.1), ((g_2.getD (Int.toNat ((mget I id_ g_3).getD 0)) T2.dflt).2.2.2.1, (! (v_u18 k g_0 g_1 g_2 g_3 (g_2.getD (Int.toNat ((mget I id_ g_3).getD 0)) T2.dflt).2.1).1.2.2.1 == (g_2.getD (Int.toNat ((mget I id_ g_3).getD 0)) T2.dflt).2.2.2.2.1, (v_u33 k (g_2.getD (Int.toNat ((mget I id_ g_3).getD 0)) T2.dflt).2.2.2.2.2 (v_u18 k g_0 g_1 g_2 g_3 (g_2.getD (Int.toNat ((mget I id_ g_3).getD 0)) T2.dflt).2.1).1.2.2.2).1))), 0)))) (.leaf (res_u18 (((i64.wrap ((v_u18 k g_0 g_1 g_2 g_3 (g_2.getD (Int.toNat ((mget I id_ g_3).getD 0)) T2.dflt).2.1).1.1 + (g_2.getD (Int.toNat ((mget I id_ g_3).getD 0)) T2.dflt).2.2.1), ((g_2.getD (Int.toNat ((mget I id_ g_3).getD 0)) T2.dflt).2.2.2.1, (! (v_u18 k g_0 g_1 g_2 g_3 (g_2.getD (Int.toNat ((mget I id_ g_3).getD 0)) T2.dflt).2.1).1.2.2.1 == (g_2.getD (Int.toNat ((mget I id_ g_3).getD 0)) T2.dflt).2.2.2.2.1, (v_u33 k (g_2.getD (Int.toNat ((mget I id_ g_3).getD 0)) T2.dflt).2.2.2.2.2 (v_u18 k g_0 g_1 g_2 g_3 (g_2.getD (Int.toNat ((mget I id_ g_3).getD 0)) T2.dflt).2.1).1.2.2.2).1))), 0))) (bo_u18 g_0 g_1 g_2 g_3 id_ (((i64.wrap ((v_u18 k g_0 g_1 g_2 g_3 (g_2.getD (Int.toNat ((mget I id_ g_3).getD 0)) T2.dflt).2.1).1.1 + (g_2.getD (Int.toNat ((mget I id_ g_3).getD 0)) T2.dflt).2.2.1), ((g_2.getD (Int.toNat ((mget I id_ g_3).getD 0)) T2.dflt).2.2.2.1, (! (v_u18 k g_0 g_1 g_2 g_3 (g_2.getD (Int.toNat ((mget I id_ g_3).getD 0)) T2.dflt).2.1).1.2.2.1 == (g_2.getD (Int.toNat ((mget I id_ g_3).getD 0)) T2.dflt).2.2.2.2.1, (v_u33 k (g_2.getD (Int.toNat ((mget I id_ g_3).getD 0)) T2.dflt).2.2.2.2.2 (v_u18 k g_0 g_1 g_2 g_3 (g_2.getD (Int.toNat ((mget I id_ g_3).getD 0)) T2.dflt).2.1).1.2.2.2).1))), 0))))))))))) (by kernel_rfl) ?_
  refine ⟨fun c => ?_, fun c => ?_⟩
  ·rw [cond_t (show ((id_ == (0 : Int))) = true from c)] at h
   refine ⟨fun c => ?_, fun c => ?_⟩
   ·rw [cond_t (show ((decide (g_1 > (0 : Int)))) = true from c)] at h
    cases h; exact ⟨rfl, rfl⟩
   ·rw [cond_f (show ((decide (g_1 > (0 : Int)))) = false from c)] at h
    cases h; exact ⟨rfl, rfl⟩
  ·rw [cond_f (show ((id_ == (0 : Int))) = false from c)] at h
   by_cases q : ((0 : Int) ≤ (mget I id_ g_3).getD (0 : Int)) ∧ ((mget I id_ g_3).getD (0 : Int) < (↑g_2.length : Int))
   ·rw [if_pos q] at h
    refine ⟨(conjC q.1 (conjC q.2 conj0)), ?_⟩
    by_cases q : ((f_u18 k g_0 g_1 g_2 g_3 (g_2.getD (Int.toNat ((mget I id_ g_3).getD 0)) T2.dflt).2.1).isSome = true)
    ·rw [if_pos q] at h
     refine ⟨(conjC (ih g_0 g_1 g_2 g_3 (g_2.getD (Int.toNat ((mget I id_ g_3).getD 0)) T2.dflt).2.1 q) conj0), ?_⟩
     refine ⟨fun c => ?_, fun c => ?_⟩
     ·rw [cond_t (show (((w_u18 (f_u18 k) g_0 g_1 g_2 g_3 (g_2.getD (Int.toNat ((mget I id_ g_3).getD (0 : Int))) T2.dflt).2.1).2 != (0 : Int))) = true from c)] at h
      cases h; exact ⟨rfl, rfl⟩
     ·rw [cond_f (show (((w_u18 (f_u18 k) g_0 g_1 g_2 g_3 (g_2.getD (Int.toNat ((mget I id_ g_3).getD (0 : Int))) T2.dflt).2.1).2 != (0 : Int))) = false from c)] at h
      by_cases q : ((f_u33 k (g_2.getD (Int.toNat ((mget I id_ g_3).getD 0)) T2.dflt).2.2.2.2.2 (w_u18 (f_u18 k) g_0 g_1 g_2 g_3 (g_2.getD (Int.toNat ((mget I id_ g_3).getD 0)) T2.dflt).2.1).1.2.2.2).isSome = true)
      ·rw [if_pos q] at h
       refine ⟨(conjC (cc_u33 k (g_2.getD (Int.toNat ((mget I id_ g_3).getD 0)) T2.dflt).2.2.2.2.2 (v_u18 k g_0 g_1 g_2 g_3 (g_2.getD (Int.toNat ((mget I id_ g_3).getD 0)) T2.dflt).2.1).1.2.2.2 q) conj0), ?_⟩
       refine ⟨fun c => ?_, fun c => ?_⟩
       ·rw [cond_t (show (((v_u33 k (g_2.getD (Int.toNat ((mget I id_ g_3).getD (0 : Int))) T2.dflt).2.2.2.2.2 (w_u18 (f_u18 k) g_0 g_1 g_2 g_3 (g_2.getD (Int.toNat ((mget I id_ g_3).getD (0 : Int))) T2.dflt).2.1).1.2.2.2).2 != (0 : Int))) = true from c)] at h
        cases h; exact ⟨rfl, rfl⟩
       ·rw [cond_f (show (((v_u33 k (g_2.getD (Int.toNat ((mget I id_ g_3).getD (0 : Int))) T2.dflt).2.2.2.2.2 (w_u18 (f_u18 k) g_0 g_1 g_2 g_3 (g_2.getD (Int.toNat ((mget I id_ g_3).getD (0 : Int))) T2.dflt).2.1).1.2.2.2).2 != (0 : Int))) = false from c)] at h
        refine ⟨fun c => ?_, fun c => ?_⟩
        ·rw [cond_t (show ((w_u18 (f_u18 k) g_0 g_1 g_2 g_3 (g_2.getD (Int.toNat ((mget I id_ g_3).getD (0 : Int))) T2.dflt).2.1).1.2.2.1) = true from c)] at h
         cases h; exact ⟨rfl, rfl⟩
        ·rw [cond_f (show ((w_u18 (f_u18 k) g_0 g_1 g_2 g_3 (g_2.getD (Int.toNat ((mget I id_ g_3).getD (0 : Int))) T2.dflt).2.1).1.2.2.1) = false from c)] at h
         cases h; exact ⟨rfl, rfl⟩
      ·rw [if_neg q] at h; cases h
    ·rw [if_neg q] at h; cases h
   ·rw [if_neg q] at h; cases h
theorem cc_u18 (k : Nat) (g_0 : Int) (g_1 : Int) (g_2 : List (T2).T) (g_3 : List ((I).T × (I).T)) (id_ : Int) (h : (f_u18 k g_0 g_1 g_2 g_3 id_).isSome = true) : CC Tryz.prog 37 (args_u18 g_0 g_1 g_2 g_3 id_) (bin_u18 g_0 g_1 g_2 g_3 id_) (res_u18 (v_u18 k g_0 g_1 g_2 g_3 id_)) (bo_u18 g_0 g_1 g_2 g_3 id_ (v_u18 k g_0 g_1 g_2 g_3 id_)) := by
 cases e : f_u18 k g_0 g_1 g_2 g_3 id_ with
 | none => rw [e] at h; cases h
 | some r => rw [show v_u18 k g_0 g_1 g_2 g_3 id_ = r by simp [v_u18, e]]; exact of_u18 k g_0 g_1 g_2 g_3 id_ r e

end
end Go.AM
namespace Go.AM
open Go Go.Proofs Go.IntKind
set_option linter.unusedVariables false
noncomputable section
abbrev R_u5 : Type := T1.T × Int
def res_u5 (r : R_u5) : AV := .tup [.agg (rvs (enc T1 r.1)), .r (.v (.int .i64 r.2))]
def bo_u5 (l_ : List (T2).T) (web_ : T5.T) (id_ : Int) (r : R_u5) : List (Nat × Blk) := []
def args_u5 (l_ : List (T2).T) (web_ : T5.T) (id_ : Int) : List AV := [.r (.ro T2 l_), .agg (rvs (enc T5 web_)), .r (.v (.int .i64 id_))]
def bin_u5 (l_ : List (T2).T) (web_ : T5.T) (id_ : Int) : List Blk := []
def f_u5 (k : Nat) (l_ : List (T2).T) (web_ : T5.T) (id_ : Int) : Option R_u5 :=
 bif (Sum.isLeft (v_u14 k l_ web_ id_)) then
 if ((f_u14 k l_ web_ id_).isSome = true) then
 bif (vA_u14 k l_ web_ id_ != (0 : Int)) then
 some (((0, (0, (false, []))), vA_u14 k l_ web_ id_))
 else
 none
 else none
 else
 if ((f_u14 k l_ web_ id_).isSome = true) then
 bif ((vB_u14 k l_ web_ id_).1 != (0 : Int)) then
 some (((0, (0, (false, []))), (vB_u14 k l_ web_ id_).1))
 else
 if ((f_u18 k (vB_u14 k l_ web_ id_).2.1 (vB_u14 k l_ web_ id_).2.2.1 (vB_u14 k l_ web_ id_).2.2.2.1 (vB_u14 k l_ web_ id_).2.2.2.2 id_).isSome = true) then
 some (((v_u18 k (vB_u14 k l_ web_ id_).2.1 (vB_u14 k l_ web_ id_).2.2.1 (vB_u14 k l_ web_ id_).2.2.2.1 (vB_u14 k l_ web_ id_).2.2.2.2 id_).1, (v_u18 k (vB_u14 k l_ web_ id_).2.1 (vB_u14 k l_ web_ id_).2.2.1 (vB_u14 k l_ web_ id_).2.2.2.1 (vB_u14 k l_ web_ id_).2.2.2.2 id_).2))
 else none
 else none
def v_u5 (k : Nat) (l_ : List (T2).T) (web_ : T5.T) (id_ : Int) : R_u5 := (f_u5 k l_ web_ id_).getD ((T1).dflt, 0)
def K_u5 (k : Nat) : Calld := ⟨fun g xs => match g with
 | 30 => match xs with
  | [_, _, _] => some [false, false, false]
  | _ => none
 | 37 => match xs with
  | [.ptr _ _ _, _] => some [true, false]
  | _ => none
 | _ => none, fun g xs bs => match g with
 | 30 => match xs, bs with
  | [.r (.ro tl__ ql_), .agg qweb_, .r (.v (.int .i64 id_))], [] => (castL tl__ T2 ql_).bind fun l_ => (decS [] T5 qweb_).bind fun web_ => some (.two (v_u14 k l_ web_ id_).isLeft (resA_u14 (vA_u14 k l_ web_ id_), boA_u14 l_ web_ id_ (vA_u14 k l_ web_ id_)) (resB_u14 (vB_u14 k l_ web_ id_), boB_u14 l_ web_ id_ (vB_u14 k l_ web_ id_)))
  | _, _ => none
 | 37 => match xs, bs with
  | [.ptr 0 0 0, .r (.v (.int .i64 id_))], [.var 73 [.r (.v (.int .i64 g_0)), .r (.v (.int .i64 g_1)), .r (.ro tg_2_ qg_2), .own 1 0], .map false kg_3_ tg_3_ qg_3] => (castL tg_2_ T2 qg_2).bind fun g_2 => (castM kg_3_ tg_3_ I I qg_3).bind fun g_3 => some (.one (res_u18 (v_u18 k g_0 g_1 g_2 g_3 id_), bo_u18 g_0 g_1 g_2 g_3 id_ (v_u18 k g_0 g_1 g_2 g_3 id_)))
  | _, _ => none
 | _ => none⟩
theorem of_u5 (k : Nat) (l_ : List (T2).T) (web_ : T5.T) (id_ : Int) (r : R_u5) (h : f_u5 k l_ web_ id_ = some r) : CC Tryz.prog 16 (args_u5 l_ web_ id_) (bin_u5 l_ web_ id_) (res_u5 r) (bo_u5 l_ web_ id_ r) := by
 refine CC.of (fn := Tryz.f16) (by kernel_rfl) (by kernel_rfl) (by kernel_rfl) (by kernel_rfl) ?_
 unfold f_u5 at h
 refine Ev.tree hm (R := Rt) (K := (K_u5 k)) (l := []) (C := []) (E := [.frz 6 true T1, .autoB [6, 7] true []]) (n := 1000) (T := .test ((Sum.isLeft (v_u14 k l_ web_ id_))) (.need [CC Tryz.prog 30 (args_u14 l_ web_ id_) (bin_u14 l_ web_ id_) (resA_u14 (vA_u14 k l_ web_ id_)) (boA_u14 l_ web_ id_ (vA_u14 k l_ web_ id_))] (.test ((vA_u14 k l_ web_ id_ != (0 : Int))) (.leaf (res_u5 (((0, (0, (false, []))), vA_u14 k l_ web_ id_))) (bo_u5 l_ web_ id_ (((0, (0, (false, []))), vA_u14 k l_ web_ id_)))) (.stuck 2002))) (.need [CC Tryz.prog 30 (args_u14 l_ web_ id_) (bin_u14 l_ web_ id_) (resB_u14 (vB_u14 k l_ web_ id_)) (boB_u14 l_ web_ id_ (vB_u14 k l_ web_ id_))] (.test (((vB_u14 k l_ web_ id_).1 != (0 : Int))) (.leaf (res_u5 (((0, (0, (false, []))), (vB_u14 k l_ web_ id_).1))) (bo_u5 l_ web_ id_ (((0, (0, (false, []))), (vB_u14 k l_ web_ id_).1)))) (.need [CC Tryz.prog 37 (args_u18 (vB_u14 k l_ web_ id_).2.1 (vB_u14 k l_ web_ id_).2.2.1 (vB_u14 k l_ web_ id_).2.2.2.1 (vB_u14 k l_ web_ id_).2.2.2.2 id_) (bin_u18 (vB_u14 k l_ web_ id_).2.1 (vB_u14 k l_ web_ id_).2.2.1 (vB_u14 k l_ web_ id_).2.2.2.1 (vB_u14 k l_ web_ id_).2.2.2.2 id_) (res_u18 (v_u18 k (vB_u14 k l_ web_ id_).2.1 (vB_u14 k l_ web_ id_).2.2.1 (vB_u14 k l_ web_ id_).2.2.2.1 (vB_u14 k l_ web_ id_).2.2.2.2 id_)) (bo_u18 (vB_u14 k l_ web_ id_).2.1 (vB_u14 k l_ web_ id_).2.2.1 (vB_u14 k l_ web_ id_).2.2.2.1 (vB_u14 k l_ web_ id_).2.2.2.2 id_ (v_u18 k (vB_u14 k l_ web_ id_).2.1 (vB_u14 k l_ web_ id_).2.2.1 (vB_u14 k l_ web_ id_).2.2.2.1 (vB_u14 k l_ web_ id_).2.2.2.2 id_))] (.leaf (res_u5 (((v_u18 k (vB_u14 k l_ web_ id_).2.1 (vB_u14 k l_ web_ id_).2.2.1 (vB_u14 k l_ web_ id_).2.2.2.1 (vB_u14 k l_ web_ id_).2.2.2.2 id_).1, (v_u18 k (vB_u14 k l_ web_ id_).2.1 (vB_u14 k l_ web_ id_).2.2.1 (vB_u14 k l_ web_ id_).2.2.2.1 (vB_u14 k l_ web_ id_).2.2.2.2 id_).2))) (bo_u5 l_ web_ id_ (((v_u18 k (vB_u14 k l_ web_ id_).2.1 (vB_u14 k l_ web_ id_).2.2.1 (vB_u14 k l_ web_ id_).2.2.2.1 (vB_u14 k l_ web_ id_).2.2.2.2 id_).1, (v_u18 k (vB_u14 k l_ web_ id_).2.1 (vB_u14 k l_ web_ id_).2.2.1 (vB_u14 k l_ web_ id_).2.2.2.1 (vB_u14 k l_ web_ id_).2.2.2.2 id_).2)))))))) (by kernel_rfl) ?_
 refine ⟨fun c => ?_, fun c => ?_⟩
 ·rw [cond_t (show ((Sum.isLeft (v_u14 k l_ web_ id_))) = true from c)] at h
  by_cases q : ((f_u14 k l_ web_ id_).isSome = true)
  ·rw [if_pos q] at h
   refine ⟨(conjC (ccA_u14 k l_ web_ id_ q (by assumption)) conj0), ?_⟩
   refine ⟨fun c => ?_, fun c => ?_⟩
   ·rw [cond_t (show ((vA_u14 k l_ web_ id_ != (0 : Int))) = true from c)] at h
    cases h; exact ⟨rfl, rfl⟩
   ·rw [cond_f (show ((vA_u14 k l_ web_ id_ != (0 : Int))) = false from c)] at h
    cases h
  ·rw [if_neg q] at h; cases h
 ·rw [cond_f (show ((Sum.isLeft (v_u14 k l_ web_ id_))) = false from c)] at h
  by_cases q : ((f_u14 k l_ web_ id_).isSome = true)
  ·rw [if_pos q] at h
   refine ⟨(conjC (ccB_u14 k l_ web_ id_ q (by assumption)) conj0), ?_⟩
   refine ⟨fun c => ?_, fun c => ?_⟩
   ·rw [cond_t (show (((vB_u14 k l_ web_ id_).1 != (0 : Int))) = true from c)] at h
    cases h; exact ⟨rfl, rfl⟩
   ·rw [cond_f (show (((vB_u14 k l_ web_ id_).1 != (0 : Int))) = false from c)] at h
    by_cases q : ((f_u18 k (vB_u14 k l_ web_ id_).2.1 (vB_u14 k l_ web_ id_).2.2.1 (vB_u14 k l_ web_ id_).2.2.2.1 (vB_u14 k l_ web_ id_).2.2.2.2 id_).isSome = true)
    ·rw [if_pos q] at h
     refine ⟨(conjC (cc_u18 k (vB_u14 k l_ web_ id_).2.1 (vB_u14 k l_ web_ id_).2.2.1 (vB_u14 k l_ web_ id_).2.2.2.1 (vB_u14 k l_ web_ id_).2.2.2.2 id_ q) conj0), ?_⟩
     cases h; exact ⟨rfl, rfl⟩
    ·rw [if_neg q] at h; cases h
  ·rw [if_neg q] at h; cases h
theorem cc_u5 (k : Nat) (l_ : List (T2).T) (web_ : T5.T) (id_ : Int) (h : (f_u5 k l_ web_ id_).isSome = true) : CC Tryz.prog 16 (args_u5 l_ web_ id_) (bin_u5 l_ web_ id_) (res_u5 (v_u5 k l_ web_ id_)) (bo_u5 l_ web_ id_ (v_u5 k l_ web_ id_)) := by
 cases e : f_u5 k l_ web_ id_ with
 | none => rw [e] at h; cases h
 | some r => rw [show v_u5 k l_ web_ id_ = r by simp [v_u5, e]]; exact of_u5 k l_ web_ id_ r e

end
end Go.AM
namespace Go.AM
open Go Go.Proofs Go.IntKind
set_option linter.unusedVariables false
noncomputable section
end
end Go.AM
namespace Go.AM
open Go Go.Proofs Go.IntKind
set_option linter.unusedVariables false
noncomputable section
abbrev R_u19 : Type := Int
def res_u19 (r : R_u19) : AV := .fn ((Fn.func 64)) [] [.ptr 2 0 0, .ptr 3 0 0]
def bo_u19 (g_0 : Int) (g_1 : Int) (g_2 : List (T2).T) (g_3 : List ((I).T × (I).T)) (id_ : Int) (r : R_u19) : List (Nat × Blk) := [(0, .var 73 [.r (.v (.int .i64 g_0)), .r (.v (.int .i64 g_1)), .r (.ro T2 g_2), .own 1 0]), (0, .map false I I g_3), (0, .var 66 [.ptr 0 0 0]), (0, .var 3 [.r (.v (.int .i64 r))])]
def args_u19 (g_0 : Int) (g_1 : Int) (g_2 : List (T2).T) (g_3 : List ((I).T × (I).T)) (id_ : Int) : List AV := [.ptr 0 0 0, .r (.v (.int .i64 id_))]
def bin_u19 (g_0 : Int) (g_1 : Int) (g_2 : List (T2).T) (g_3 : List ((I).T × (I).T)) (id_ : Int) : List Blk := [.var 73 [.r (.v (.int .i64 g_0)), .r (.v (.int .i64 g_1)), .r (.ro T2 g_2), .own 1 0], .map false I I g_3]
def f_u19 (k : Nat) (g_0 : Int) (g_1 : Int) (g_2 : List (T2).T) (g_3 : List ((I).T × (I).T)) (id_ : Int) : Option R_u19 :=
 some id_
def v_u19 (k : Nat) (g_0 : Int) (g_1 : Int) (g_2 : List (T2).T) (g_3 : List ((I).T × (I).T)) (id_ : Int) : R_u19 := (f_u19 k g_0 g_1 g_2 g_3 id_).getD 0
def K_u19 (k : Nat) : Calld := ⟨fun g xs => match g with
 | _ => none, fun g xs bs => match g with
 | _ => none⟩
theorem of_u19 (k : Nat) (g_0 : Int) (g_1 : Int) (g_2 : List (T2).T) (g_3 : List ((I).T × (I).T)) (id_ : Int) (r : R_u19) (h : f_u19 k g_0 g_1 g_2 g_3 id_ = some r) : CC Tryz.prog 44 (args_u19 g_0 g_1 g_2 g_3 id_) (bin_u19 g_0 g_1 g_2 g_3 id_) (res_u19 r) (bo_u19 g_0 g_1 g_2 g_3 id_ r) := by
 refine CC.of (fn := Tryz.f44) (by kernel_rfl) (by kernel_rfl) (by kernel_rfl) (by kernel_rfl) ?_
 unfold f_u19 at h
 refine Ev.tree hm (R := Rt) (K := (K_u19 k)) (l := []) (C := []) (E := [.autoB [4] true []]) (n := 1000) (T := .leaf (res_u19 id_) (bo_u19 g_0 g_1 g_2 g_3 id_ id_)) (by kernel_rfl) ?_
 cases h; exact ⟨rfl, rfl⟩
theorem cc_u19 (k : Nat) (g_0 : Int) (g_1 : Int) (g_2 : List (T2).T) (g_3 : List ((I).T × (I).T)) (id_ : Int) (h : (f_u19 k g_0 g_1 g_2 g_3 id_).isSome = true) : CC Tryz.prog 44 (args_u19 g_0 g_1 g_2 g_3 id_) (bin_u19 g_0 g_1 g_2 g_3 id_) (res_u19 (v_u19 k g_0 g_1 g_2 g_3 id_)) (bo_u19 g_0 g_1 g_2 g_3 id_ (v_u19 k g_0 g_1 g_2 g_3 id_)) := by
 cases e : f_u19 k g_0 g_1 g_2 g_3 id_ with
 | none => rw [e] at h; cases h
 | some r => rw [show v_u19 k g_0 g_1 g_2 g_3 id_ = r by simp [v_u19, e]]; exact of_u19 k g_0 g_1 g_2 g_3 id_ r e

end
end Go.AM
namespace Go.AM
open Go Go.Proofs Go.IntKind
set_option linter.unusedVariables false
noncomputable section
abbrev R_u1 : Type := Int
def res_u1 (r : R_u1) : AV := .r (.v (.bool true))
def bo_u1 (s800 : Int) (s801 : Int) (s802 : List (T2).T) (s803 : List ((I).T × (I).T)) (s120 : Int) (x0 : T2.T) (r : R_u1) : List (Nat × Blk) := [(0, .loop .ready none (rcAt Tryz.f23 7 [48]) (mkS 52 [(8, .ptr 1 0 0), (12, .ptr 4 0 0)])), (0, .var 66 [.ptr 2 0 0]), (0, .var 73 [.r (.v (.int .i64 s800)), .r (.v (.int .i64 s801)), .r (.ro T2 s802), .own 3 0]), (0, .map false I I s803), (0, .var 3 [.r (.v (.int .i64 r))])]
def args_u1 (s800 : Int) (s801 : Int) (s802 : List (T2).T) (s803 : List ((I).T × (I).T)) (s120 : Int) (x0 : T2.T) : List AV := [.agg (rvs (enc T2 x0))]
def bin_u1 (s800 : Int) (s801 : Int) (s802 : List (T2).T) (s803 : List ((I).T × (I).T)) (s120 : Int) (x0 : T2.T) : List Blk := [.loop .ready none (rcAt Tryz.f23 7 [48]) (mkS 52 [(8, .ptr 1 0 0), (12, .ptr 4 0 0)]), .var 66 [.ptr 2 0 0], .var 73 [.r (.v (.int .i64 s800)), .r (.v (.int .i64 s801)), .r (.ro T2 s802), .own 3 0], .map false I I s803, .var 3 [.r (.v (.int .i64 s120))]]
def f_u1 (k : Nat) (s800 : Int) (s801 : Int) (s802 : List (T2).T) (s803 : List ((I).T × (I).T)) (s120 : Int) (x0 : T2.T) : Option R_u1 :=
 if ((f_u27 k s800 s801 s802 s803 x0.1).isSome = true) then
 some (i64.wrap (s120 - i64.wrap ((v_u27 k s800 s801 s802 s803 x0.1).1 * (v_u27 k s800 s801 s802 s803 x0.1).2)))
 else none
def v_u1 (k : Nat) (s800 : Int) (s801 : Int) (s802 : List (T2).T) (s803 : List ((I).T × (I).T)) (s120 : Int) (x0 : T2.T) : R_u1 := (f_u1 k s800 s801 s802 s803 s120 x0).getD 0
def K_u1 (k : Nat) : Calld := ⟨fun g xs => match g with
 | 42 => match xs with
  | [.ptr _ _ _, _] => some [true, false]
  | _ => none
 | _ => none, fun g xs bs => match g with
 | 42 => match xs, bs with
  | [.ptr 0 0 0, .r (.v (.int .i64 id_))], [.var 73 [.r (.v (.int .i64 g_0)), .r (.v (.int .i64 g_1)), .r (.ro tg_2_ qg_2), .own 1 0], .map false kg_3_ tg_3_ qg_3] => (castL tg_2_ T2 qg_2).bind fun g_2 => (castM kg_3_ tg_3_ I I qg_3).bind fun g_3 => some (.one (res_u27 (v_u27 k g_0 g_1 g_2 g_3 id_), bo_u27 g_0 g_1 g_2 g_3 id_ (v_u27 k g_0 g_1 g_2 g_3 id_)))
  | _, _ => none
 | _ => none⟩
theorem of_u1 (k : Nat) (s800 : Int) (s801 : Int) (s802 : List (T2).T) (s803 : List ((I).T × (I).T)) (s120 : Int) (x0 : T2.T) (r : R_u1) (h : f_u1 k s800 s801 s802 s803 s120 x0 = some r) : YC Tryz.prog (args_u1 s800 s801 s802 s803 s120 x0) (bin_u1 s800 s801 s802 s803 s120 x0) (res_u1 r) (bo_u1 s800 s801 s802 s803 s120 x0 r) := by
 refine YC.of (by rw [show bin_u1 s800 s801 s802 s803 s120 x0 = _ from rfl]; exact List.cons_ne_nil _ _) (by kernel_rfl) ?_
 unfold f_u1 at h
 refine Ev.tree hm (R := Rt) (K := (K_u1 k)) (l := []) (C := []) (E := [.autoB [0] true []]) (n := 1000) (T := .need [CC Tryz.prog 42 (args_u27 s800 s801 s802 s803 x0.1) (bin_u27 s800 s801 s802 s803 x0.1) (res_u27 (v_u27 k s800 s801 s802 s803 x0.1)) (bo_u27 s800 s801 s802 s803 x0.1 (v_u27 k s800 s801 s802 s803 x0.1))] (.leaf (res_u1 (i64.wrap (s120 - i64.wrap ((v_u27 k s800 s801 s802 s803 x0.1).1 * (v_u27 k s800 s801 s802 s803 x0.1).2)))) (bo_u1 s800 s801 s802 s803 s120 x0 (i64.wrap (s120 - i64.wrap ((v_u27 k s800 s801 s802 s803 x0.1).1 * (v_u27 k s800 s801 s802 s803 x0.1).2)))))) (by kernel_rfl) ?_
 by_cases q : ((f_u27 k s800 s801 s802 s803 x0.1).isSome = true)
 ·rw [if_pos q] at h
  refine ⟨(conjC (cc_u27 k s800 s801 s802 s803 x0.1 q) conj0), ?_⟩
  cases h; exact ⟨rfl, rfl⟩
 ·rw [if_neg q] at h; cases h
theorem cc_u1 (k : Nat) (s800 : Int) (s801 : Int) (s802 : List (T2).T) (s803 : List ((I).T × (I).T)) (s120 : Int) (x0 : T2.T) (h : (f_u1 k s800 s801 s802 s803 s120 x0).isSome = true) : YC Tryz.prog (args_u1 s800 s801 s802 s803 s120 x0) (bin_u1 s800 s801 s802 s803 s120 x0) (res_u1 (v_u1 k s800 s801 s802 s803 s120 x0)) (bo_u1 s800 s801 s802 s803 s120 x0 (v_u1 k s800 s801 s802 s803 s120 x0)) := by
 cases e : f_u1 k s800 s801 s802 s803 s120 x0 with
 | none => rw [e] at h; cases h
 | some r => rw [show v_u1 k s800 s801 s802 s803 s120 x0 = r by simp [v_u1, e]]; exact of_u1 k s800 s801 s802 s803 s120 x0 r e

end
end Go.AM
namespace Go.AM
open Go Go.Proofs Go.IntKind
set_option linter.unusedVariables false
noncomputable section
abbrev R_u21 : Type := Int
def res_u21 (r : R_u21) : AV := .tup []
def bo_u21 (yield_800 : Int) (yield_801 : Int) (yield_802 : List (T2).T) (yield_803 : List ((I).T × (I).T)) (yield_120 : Int) (z10 : Int) (r : R_u21) : List (Nat × Blk) := [(0, .loop .ready none (rcAt Tryz.f23 7 [48]) (mkS 52 [(8, .ptr 1 0 0), (12, .ptr 4 0 0)])), (0, .var 66 [.ptr 2 0 0]), (0, .var 73 [.r (.v (.int .i64 yield_800)), .r (.v (.int .i64 yield_801)), .r (.ro T2 yield_802), .own 3 0]), (0, .map false I I yield_803), (0, .var 3 [.r (.v (.int .i64 r))]), (0, .var 66 [.ptr 2 0 0]), (0, .var 3 [.r (.v (.int .i64 z10))])]
def args_u21 (yield_800 : Int) (yield_801 : Int) (yield_802 : List (T2).T) (yield_803 : List ((I).T × (I).T)) (yield_120 : Int) (z10 : Int) : List AV := [.own 0 0, .ptr 5 0 0, .ptr 6 0 0]
def bin_u21 (yield_800 : Int) (yield_801 : Int) (yield_802 : List (T2).T) (yield_803 : List ((I).T × (I).T)) (yield_120 : Int) (z10 : Int) : List Blk := [.loop .ready none (rcAt Tryz.f23 7 [48]) (mkS 52 [(8, .ptr 1 0 0), (12, .ptr 4 0 0)]), .var 66 [.ptr 2 0 0], .var 73 [.r (.v (.int .i64 yield_800)), .r (.v (.int .i64 yield_801)), .r (.ro T2 yield_802), .own 3 0], .map false I I yield_803, .var 3 [.r (.v (.int .i64 yield_120))], .var 66 [.ptr 2 0 0], .var 3 [.r (.v (.int .i64 z10))]]
def st_u21_1 (yield_800 : Int) (yield_801 : Int) (yield_802 : List (T2).T) (yield_803 : List ((I).T × (I).T)) (yield_120 : Int) (z10 : Int) (y0 : List (T2).T) (y1 : Int) (y2 : Int) (y3 : Int) : St := ⟨mkS 26 [(0, .own 0 0), (2, .ptr 6 0 0), (9, .r (.ro T2 y0)), (10, .r (.v (.int .i64 y1))), (11, .r (.v (.int .i64 y2)))], [(0, 0, .loop .ready none (rcAt Tryz.f23 7 [48]) (mkS 52 [(8, .ptr 1 0 0), (12, .ptr 4 0 0)])), (1, 0, .var 66 [.ptr 2 0 0]), (2, 0, .var 73 [.r (.v (.int .i64 yield_800)), .r (.v (.int .i64 yield_801)), .r (.ro T2 yield_802), .own 3 0]), (3, 0, .map false I I yield_803), (4, 0, .var 3 [.r (.v (.int .i64 y3))]), (5, 0, .var 66 [.ptr 2 0 0]), (6, 0, .var 3 [.r (.v (.int .i64 z10))])]⟩
def f_u21_1 (k : Nat) (yield_800 : Int) (yield_801 : Int) (yield_802 : List (T2).T) (yield_803 : List ((I).T × (I).T)) (yield_120 : Int) (z10 : Int) : Nat → List (T2).T → Int → Int → Int → Option R_u21
 | 0, _, _, _, _ => none
 | j + 1, y0, y1, y2, y3 =>
 bif (decide (y2 < y1)) then
 if (0 ≤ y2) ∧ (y2 < (↑y0.length : Int)) then
 bif ((y0.getD y2.toNat T2.dflt).2.1 == z10) then
 if (((y0.getD y2.toNat T2.dflt).2.1 == z10) = true) ∧ ((f_u1 k yield_800 yield_801 yield_802 yield_803 y3 (y0.getD y2.toNat T2.dflt)).isSome = true) then
 f_u21_1 k yield_800 yield_801 yield_802 yield_803 yield_120 z10 j y0 y1 ((i64.wrap (y2 + 1))) ((v_u1 k yield_800 yield_801 yield_802 yield_803 y3 (y0.getD y2.toNat T2.dflt)))
 else none
 else
 if (((y0.getD y2.toNat T2.dflt).2.1 == z10) = false) then
 f_u21_1 k yield_800 yield_801 yield_802 yield_803 yield_120 z10 j y0 y1 ((i64.wrap (y2 + 1))) y3
 else none
 else none
 else
 some y3
def f_u21 (k : Nat) (yield_800 : Int) (yield_801 : Int) (yield_802 : List (T2).T) (yield_803 : List ((I).T × (I).T)) (yield_120 : Int) (z10 : Int) : Option R_u21 :=
 f_u21_1 k yield_800 yield_801 yield_802 yield_803 yield_120 z10 k yield_802 ((↑yield_802.length : Int)) 0 yield_120
def v_u21 (k : Nat) (yield_800 : Int) (yield_801 : Int) (yield_802 : List (T2).T) (yield_803 : List ((I).T × (I).T)) (yield_120 : Int) (z10 : Int) : R_u21 := (f_u21 k yield_800 yield_801 yield_802 yield_803 yield_120 z10).getD 0
def K_u21 (k : Nat) : Calld := ⟨fun g xs => match g with
 | 1000000 => match xs with
  | [_] => some [false]
  | _ => none
 | _ => none, fun g xs bs => match g with
 | 1000000 => match xs, bs with
  | [.agg qx0], [.loop _ _ _ qs, .var 66 [.ptr 2 0 0], .var 73 [.r (.v (.int .i64 s800)), .r (.v (.int .i64 s801)), .r (.ro ts802_ qs802), .own 3 0], .map false ks803_ ts803_ qs803, .var 3 [.r (.v (.int .i64 s120))]] => (decS [] T2 qx0).bind fun x0 => (castL ts802_ T2 qs802).bind fun s802 => (castM ks803_ ts803_ I I qs803).bind fun s803 => some (.one (res_u1 (v_u1 k s800 s801 s802 s803 s120 x0), bo_u1 s800 s801 s802 s803 s120 x0 (v_u1 k s800 s801 s802 s803 s120 x0)))
  | _, _ => none
 | _ => none⟩
theorem ev_u21 (k : Nat) (yield_800 : Int) (yield_801 : Int) (yield_802 : List (T2).T) (yield_803 : List ((I).T × (I).T)) (yield_120 : Int) (z10 : Int) : ∀ j, (∀ (y0 : List (T2).T) (y1 : Int) (y2 : Int) (y3 : Int) (r : R_u21), f_u21_1 k yield_800 yield_801 yield_802 yield_803 yield_120 z10 j y0 y1 y2 y3 = some r → Ev Tryz.prog Tryz.f64 7 (placeAt Tryz.f64 1) (st_u21_1 yield_800 yield_801 yield_802 yield_803 yield_120 z10 y0 y1 y2 y3) (res_u21 r) (bo_u21 yield_800 yield_801 yield_802 yield_803 yield_120 z10 r))
 | 0 => by
  intros; rename_i h; simp [f_u21_1] at h
 | j + 1 => by
  have ih := ev_u21 k yield_800 yield_801 yield_802 yield_803 yield_120 z10 j
  ·intro y0 y1 y2 y3 r h
   rw [f_u21_1] at h
   refine Ev.tree hm (R := Rt) (K := (K_u21 k)) (l := []) (C := [(1, [.autoB [0, 2, 9, 10, 11] false []])]) (E := [.autoB [] true []]) (n := 1000) (T := .test ((decide (y2 < y1))) (.need [0 ≤ y2, y2 < (↑y0.length : Int)] (.test (((y0.getD y2.toNat T2.dflt).2.1 == z10)) (.need [((y0.getD y2.toNat T2.dflt).2.1 == z10) = true, YC Tryz.prog (args_u1 yield_800 yield_801 yield_802 yield_803 y3 (y0.getD y2.toNat T2.dflt)) (bin_u1 yield_800 yield_801 yield_802 yield_803 y3 (y0.getD y2.toNat T2.dflt)) (res_u1 (v_u1 k yield_800 yield_801 yield_802 yield_803 y3 (y0.getD y2.toNat T2.dflt))) (bo_u1 yield_800 yield_801 yield_802 yield_803 y3 (y0.getD y2.toNat T2.dflt) (v_u1 k yield_800 yield_801 yield_802 yield_803 y3 (y0.getD y2.toNat T2.dflt)))] (.test (false) (.leaf (res_u21 (v_u1 k yield_800 yield_801 yield_802 yield_803 y3 (y0.getD y2.toNat T2.dflt))) (bo_u21 yield_800 yield_801 yield_802 yield_803 yield_120 z10 (v_u1 k yield_800 yield_801 yield_802 yield_803 y3 (y0.getD y2.toNat T2.dflt)))) (.cut 1 (placeAt Tryz.f64 1) (st_u21_1 yield_800 yield_801 yield_802 yield_803 yield_120 z10 y0 y1 ((i64.wrap (y2 + 1))) ((v_u1 k yield_800 yield_801 yield_802 yield_803 y3 (y0.getD y2.toNat T2.dflt))))))) (.need [((y0.getD y2.toNat T2.dflt).2.1 == z10) = false] (.test (false) (.leaf (res_u21 y3) (bo_u21 yield_800 yield_801 yield_802 yield_803 yield_120 z10 y3)) (.cut 1 (placeAt Tryz.f64 1) (st_u21_1 yield_800 yield_801 yield_802 yield_803 yield_120 z10 y0 y1 ((i64.wrap (y2 + 1))) y3)))))) (.leaf (res_u21 y3) (bo_u21 yield_800 yield_801 yield_802 yield_803 yield_120 z10 y3))) (by kernel_rfl) ?_
   refine ⟨fun c => ?_, fun c => ?_⟩
   ·rw [cond_t (show ((decide (y2 < y1))) = true from c)] at h
    by_cases q : (0 ≤ y2) ∧ (y2 < (↑y0.length : Int))
    ·rw [if_pos q] at h
     refine ⟨(conjC q.1 (conjC q.2 conj0)), ?_⟩
     refine ⟨fun c => ?_, fun c => ?_⟩
     ·rw [cond_t (show (((y0.getD y2.toNat T2.dflt).2.1 == z10)) = true from c)] at h
      by_cases q : (((y0.getD y2.toNat T2.dflt).2.1 == z10) = true) ∧ ((f_u1 k yield_800 yield_801 yield_802 yield_803 y3 (y0.getD y2.toNat T2.dflt)).isSome = true)
      ·rw [if_pos q] at h
       refine ⟨(conjC q.1 (conjC (cc_u1 k yield_800 yield_801 yield_802 yield_803 y3 (y0.getD y2.toNat T2.dflt) q.2) conj0)), ?_⟩
       refine ⟨fun c => ?_, fun c => ?_⟩
       ·cases c
       exact ih y0 y1 ((i64.wrap (y2 + 1))) ((v_u1 k yield_800 yield_801 yield_802 yield_803 y3 (y0.getD y2.toNat T2.dflt))) _ h
      ·rw [if_neg q] at h; cases h
     ·rw [cond_f (show (((y0.getD y2.toNat T2.dflt).2.1 == z10)) = false from c)] at h
      by_cases q : (((y0.getD y2.toNat T2.dflt).2.1 == z10) = false)
      ·rw [if_pos q] at h
       refine ⟨(conjC q conj0), ?_⟩
       refine ⟨fun c => ?_, fun c => ?_⟩
       ·cases c
       exact ih y0 y1 ((i64.wrap (y2 + 1))) y3 _ h
      ·rw [if_neg q] at h; cases h
    ·rw [if_neg q] at h; cases h
   ·rw [cond_f (show ((decide (y2 < y1))) = false from c)] at h
    cases h; exact ⟨rfl, rfl⟩
theorem of_u21 (k : Nat) (yield_800 : Int) (yield_801 : Int) (yield_802 : List (T2).T) (yield_803 : List ((I).T × (I).T)) (yield_120 : Int) (z10 : Int) (r : R_u21) (h : f_u21 k yield_800 yield_801 yield_802 yield_803 yield_120 z10 = some r) : CC Tryz.prog 64 (args_u21 yield_800 yield_801 yield_802 yield_803 yield_120 z10) (bin_u21 yield_800 yield_801 yield_802 yield_803 yield_120 z10) (res_u21 r) (bo_u21 yield_800 yield_801 yield_802 yield_803 yield_120 z10 r) := by
 refine CC.of (fn := Tryz.f64) (by kernel_rfl) (by kernel_rfl) (by kernel_rfl) (by kernel_rfl) ?_
 unfold f_u21 at h
 refine Ev.tree hm (R := Rt) (K := (K_u21 k)) (l := []) (C := [(1, [.autoB [0, 2, 9, 10, 11] false []])]) (E := [.autoB [] true []]) (n := 1000) (T := .cut 1 (placeAt Tryz.f64 1) (st_u21_1 yield_800 yield_801 yield_802 yield_803 yield_120 z10 yield_802 ((↑yield_802.length : Int)) 0 yield_120)) (by kernel_rfl) ?_
 exact (ev_u21 k yield_800 yield_801 yield_802 yield_803 yield_120 z10 k) yield_802 ((↑yield_802.length : Int)) 0 yield_120 _ h
theorem cc_u21 (k : Nat) (yield_800 : Int) (yield_801 : Int) (yield_802 : List (T2).T) (yield_803 : List ((I).T × (I).T)) (yield_120 : Int) (z10 : Int) (h : (f_u21 k yield_800 yield_801 yield_802 yield_803 yield_120 z10).isSome = true) : CC Tryz.prog 64 (args_u21 yield_800 yield_801 yield_802 yield_803 yield_120 z10) (bin_u21 yield_800 yield_801 yield_802 yield_803 yield_120 z10) (res_u21 (v_u21 k yield_800 yield_801 yield_802 yield_803 yield_120 z10)) (bo_u21 yield_800 yield_801 yield_802 yield_803 yield_120 z10 (v_u21 k yield_800 yield_801 yield_802 yield_803 yield_120 z10)) := by
 cases e : f_u21 k yield_800 yield_801 yield_802 yield_803 yield_120 z10 with
 | none => rw [e] at h; cases h
 | some r => rw [show v_u21 k yield_800 yield_801 yield_802 yield_803 yield_120 z10 = r by simp [v_u21, e]]; exact of_u21 k yield_800 yield_801 yield_802 yield_803 yield_120 z10 r e

end
end Go.AM
namespace Go.AM
open Go Go.Proofs Go.IntKind
set_option linter.unusedVariables false
noncomputable section
abbrev R_u8 : Type := Int × Int
def res_u8 (r : R_u8) : AV := .tup [.r (.v (.int .i64 r.1)), .r (.v (.int .i64 r.2))]
def bo_u8 (l_ : List (T2).T) (web_ : T5.T) (id_ : Int) (r : R_u8) : List (Nat × Blk) := []
def args_u8 (l_ : List (T2).T) (web_ : T5.T) (id_ : Int) : List AV := [.r (.ro T2 l_), .agg (rvs (enc T5 web_)), .r (.v (.int .i64 id_))]
def bin_u8 (l_ : List (T2).T) (web_ : T5.T) (id_ : Int) : List Blk := []
def f_u8 (k : Nat) (l_ : List (T2).T) (web_ : T5.T) (id_ : Int) : Option R_u8 :=
 bif (Sum.isLeft (v_u14 k l_ web_ id_)) then
 if ((f_u14 k l_ web_ id_).isSome = true) then
 bif (vA_u14 k l_ web_ id_ != (0 : Int)) then
 some ((0, vA_u14 k l_ web_ id_))
 else
 none
 else none
 else
 if ((f_u14 k l_ web_ id_).isSome = true) then
 bif ((vB_u14 k l_ web_ id_).1 != (0 : Int)) then
 some ((0, (vB_u14 k l_ web_ id_).1))
 else
 if ((f_u27 k (vB_u14 k l_ web_ id_).2.1 (vB_u14 k l_ web_ id_).2.2.1 (vB_u14 k l_ web_ id_).2.2.2.1 (vB_u14 k l_ web_ id_).2.2.2.2 id_).isSome = true) then
 if ((f_u19 k (vB_u14 k l_ web_ id_).2.1 (vB_u14 k l_ web_ id_).2.2.1 (vB_u14 k l_ web_ id_).2.2.2.1 (vB_u14 k l_ web_ id_).2.2.2.2 id_).isSome = true) then
 if ((f_u21 k (vB_u14 k l_ web_ id_).2.1 (vB_u14 k l_ web_ id_).2.2.1 (vB_u14 k l_ web_ id_).2.2.2.1 (vB_u14 k l_ web_ id_).2.2.2.2 (i64.wrap ((v_u27 k (vB_u14 k l_ web_ id_).2.1 (vB_u14 k l_ web_ id_).2.2.1 (vB_u14 k l_ web_ id_).2.2.2.1 (vB_u14 k l_ web_ id_).2.2.2.2 id_).1 * (v_u27 k (vB_u14 k l_ web_ id_).2.1 (vB_u14 k l_ web_ id_).2.2.1 (vB_u14 k l_ web_ id_).2.2.2.1 (vB_u14 k l_ web_ id_).2.2.2.2 id_).2)) (v_u19 k (vB_u14 k l_ web_ id_).2.1 (vB_u14 k l_ web_ id_).2.2.1 (vB_u14 k l_ web_ id_).2.2.2.1 (vB_u14 k l_ web_ id_).2.2.2.2 id_)).isSome = true) then
 some ((v_u21 k (vB_u14 k l_ web_ id_).2.1 (vB_u14 k l_ web_ id_).2.2.1 (vB_u14 k l_ web_ id_).2.2.2.1 (vB_u14 k l_ web_ id_).2.2.2.2 (i64.wrap ((v_u27 k (vB_u14 k l_ web_ id_).2.1 (vB_u14 k l_ web_ id_).2.2.1 (vB_u14 k l_ web_ id_).2.2.2.1 (vB_u14 k l_ web_ id_).2.2.2.2 id_).1 * (v_u27 k (vB_u14 k l_ web_ id_).2.1 (vB_u14 k l_ web_ id_).2.2.1 (vB_u14 k l_ web_ id_).2.2.2.1 (vB_u14 k l_ web_ id_).2.2.2.2 id_).2)) (v_u19 k (vB_u14 k l_ web_ id_).2.1 (vB_u14 k l_ web_ id_).2.2.1 (vB_u14 k l_ web_ id_).2.2.2.1 (vB_u14 k l_ web_ id_).2.2.2.2 id_), 0))
 else none
 else none
 else none
 else none
def v_u8 (k : Nat) (l_ : List (T2).T) (web_ : T5.T) (id_ : Int) : R_u8 := (f_u8 k l_ web_ id_).getD (0, 0)
def K_u8 (k : Nat) : Calld := ⟨fun g xs => match g with
 | 42 => match xs with
  | [.ptr _ _ _, _] => some [true, false]
  | _ => none
 | 30 => match xs with
  | [_, _, _] => some [false, false, false]
  | _ => none
 | 44 => match xs with
  | [.ptr _ _ _, _] => some [true, false]
  | _ => none
 | 64 => match xs with
  | [.own _ _, .ptr _ _ _, .ptr _ _ _] => some [true, true, true]
  | _ => none
 | _ => none, fun g xs bs => match g with
 | 42 => match xs, bs with
  | [.ptr 0 0 0, .r (.v (.int .i64 id_))], [.var 73 [.r (.v (.int .i64 g_0)), .r (.v (.int .i64 g_1)), .r (.ro tg_2_ qg_2), .own 1 0], .map false kg_3_ tg_3_ qg_3] => (castL tg_2_ T2 qg_2).bind fun g_2 => (castM kg_3_ tg_3_ I I qg_3).bind fun g_3 => some (.one (res_u27 (v_u27 k g_0 g_1 g_2 g_3 id_), bo_u27 g_0 g_1 g_2 g_3 id_ (v_u27 k g_0 g_1 g_2 g_3 id_)))
  | _, _ => none
 | 30 => match xs, bs with
  | [.r (.ro tl__ ql_), .agg qweb_, .r (.v (.int .i64 id_))], [] => (castL tl__ T2 ql_).bind fun l_ => (decS [] T5 qweb_).bind fun web_ => some (.two (v_u14 k l_ web_ id_).isLeft (resA_u14 (vA_u14 k l_ web_ id_), boA_u14 l_ web_ id_ (vA_u14 k l_ web_ id_)) (resB_u14 (vB_u14 k l_ web_ id_), boB_u14 l_ web_ id_ (vB_u14 k l_ web_ id_)))
  | _, _ => none
 | 44 => match xs, bs with
  | [.ptr 0 0 0, .r (.v (.int .i64 id_))], [.var 73 [.r (.v (.int .i64 g_0)), .r (.v (.int .i64 g_1)), .r (.ro tg_2_ qg_2), .own 1 0], .map false kg_3_ tg_3_ qg_3] => (castL tg_2_ T2 qg_2).bind fun g_2 => (castM kg_3_ tg_3_ I I qg_3).bind fun g_3 => some (.one (res_u19 (v_u19 k g_0 g_1 g_2 g_3 id_), bo_u19 g_0 g_1 g_2 g_3 id_ (v_u19 k g_0 g_1 g_2 g_3 id_)))
  | _, _ => none
 | 64 => match xs, bs with
  | [.own 0 0, .ptr 5 0 0, .ptr 6 0 0], [.loop _ _ _ qyield_, .var 66 [.ptr 2 0 0], .var 73 [.r (.v (.int .i64 yield_800)), .r (.v (.int .i64 yield_801)), .r (.ro tyield_802_ qyield_802), .own 3 0], .map false kyield_803_ tyield_803_ qyield_803, .var 3 [.r (.v (.int .i64 yield_120))], .var 66 [.ptr 2 0 0], .var 3 [.r (.v (.int .i64 z10))]] => (castL tyield_802_ T2 qyield_802).bind fun yield_802 => (castM kyield_803_ tyield_803_ I I qyield_803).bind fun yield_803 => some (.one (res_u21 (v_u21 k yield_800 yield_801 yield_802 yield_803 yield_120 z10), bo_u21 yield_800 yield_801 yield_802 yield_803 yield_120 z10 (v_u21 k yield_800 yield_801 yield_802 yield_803 yield_120 z10)))
  | _, _ => none
 | _ => none⟩
theorem of_u8 (k : Nat) (l_ : List (T2).T) (web_ : T5.T) (id_ : Int) (r : R_u8) (h : f_u8 k l_ web_ id_ = some r) : CC Tryz.prog 23 (args_u8 l_ web_ id_) (bin_u8 l_ web_ id_) (res_u8 r) (bo_u8 l_ web_ id_ r) := by
 refine CC.of (fn := Tryz.f23) (by kernel_rfl) (by kernel_rfl) (by kernel_rfl) (by kernel_rfl) ?_
 unfold f_u8 at h
 refine Ev.tree hm (R := Rt) (K := (K_u8 k)) (l := []) (C := []) (E := [.autoB [6, 7] true []]) (n := 1000) (T := .test ((Sum.isLeft (v_u14 k l_ web_ id_))) (.need [CC Tryz.prog 30 (args_u14 l_ web_ id_) (bin_u14 l_ web_ id_) (resA_u14 (vA_u14 k l_ web_ id_)) (boA_u14 l_ web_ id_ (vA_u14 k l_ web_ id_))] (.test ((vA_u14 k l_ web_ id_ != (0 : Int))) (.leaf (res_u8 ((0, vA_u14 k l_ web_ id_))) (bo_u8 l_ web_ id_ ((0, vA_u14 k l_ web_ id_)))) (.stuck 2002))) (.need [CC Tryz.prog 30 (args_u14 l_ web_ id_) (bin_u14 l_ web_ id_) (resB_u14 (vB_u14 k l_ web_ id_)) (boB_u14 l_ web_ id_ (vB_u14 k l_ web_ id_))] (.test (((vB_u14 k l_ web_ id_).1 != (0 : Int))) (.leaf (res_u8 ((0, (vB_u14 k l_ web_ id_).1))) (bo_u8 l_ web_ id_ ((0, (vB_u14 k l_ web_ id_).1)))) (.need [CC Tryz.prog 42 (args_u27 (vB_u14 k l_ web_ id_).2.1 (vB_u14 k l_ web_ id_).2.2.1 (vB_u14 k l_ web_ id_).2.2.2.1 (vB_u14 k l_ web_ id_).2.2.2.2 id_) (bin_u27 (vB_u14 k l_ web_ id_).2.1 (vB_u14 k l_ web_ id_).2.2.1 (vB_u14 k l_ web_ id_).2.2.2.1 (vB_u14 k l_ web_ id_).2.2.2.2 id_) (res_u27 (v_u27 k (vB_u14 k l_ web_ id_).2.1 (vB_u14 k l_ web_ id_).2.2.1 (vB_u14 k l_ web_ id_).2.2.2.1 (vB_u14 k l_ web_ id_).2.2.2.2 id_)) (bo_u27 (vB_u14 k l_ web_ id_).2.1 (vB_u14 k l_ web_ id_).2.2.1 (vB_u14 k l_ web_ id_).2.2.2.1 (vB_u14 k l_ web_ id_).2.2.2.2 id_ (v_u27 k (vB_u14 k l_ web_ id_).2.1 (vB_u14 k l_ web_ id_).2.2.1 (vB_u14 k l_ web_ id_).2.2.2.1 (vB_u14 k l_ web_ id_).2.2.2.2 id_))] (.need [CC Tryz.prog 44 (args_u19 (vB_u14 k l_ web_ id_).2.1 (vB_u14 k l_ web_ id_).2.2.1 (vB_u14 k l_ web_ id_).2.2.2.1 (vB_u14 k l_ web_ id_).2.2.2.2 id_) (bin_u19 (vB_u14 k l_ web_ id_).2.1 (vB_u14 k l_ web_ id_).2.2.1 (vB_u14 k l_ web_ id_).2.2.2.1 (vB_u14 k l_ web_ id_).2.2.2.2 id_) (res_u19 (v_u19 k (vB_u14 k l_ web_ id_).2.1 (vB_u14 k l_ web_ id_).2.2.1 (vB_u14 k l_ web_ id_).2.2.2.1 (vB_u14 k l_ web_ id_).2.2.2.2 id_)) (bo_u19 (vB_u14 k l_ web_ id_).2.1 (vB_u14 k l_ web_ id_).2.2.1 (vB_u14 k l_ web_ id_).2.2.2.1 (vB_u14 k l_ web_ id_).2.2.2.2 id_ (v_u19 k (vB_u14 k l_ web_ id_).2.1 (vB_u14 k l_ web_ id_).2.2.1 (vB_u14 k l_ web_ id_).2.2.2.1 (vB_u14 k l_ web_ id_).2.2.2.2 id_))] (.need [CC Tryz.prog 64 (args_u21 (vB_u14 k l_ web_ id_).2.1 (vB_u14 k l_ web_ id_).2.2.1 (vB_u14 k l_ web_ id_).2.2.2.1 (vB_u14 k l_ web_ id_).2.2.2.2 (i64.wrap ((v_u27 k (vB_u14 k l_ web_ id_).2.1 (vB_u14 k l_ web_ id_).2.2.1 (vB_u14 k l_ web_ id_).2.2.2.1 (vB_u14 k l_ web_ id_).2.2.2.2 id_).1 * (v_u27 k (vB_u14 k l_ web_ id_).2.1 (vB_u14 k l_ web_ id_).2.2.1 (vB_u14 k l_ web_ id_).2.2.2.1 (vB_u14 k l_ web_ id_).2.2.2.2 id_).2)) (v_u19 k (vB_u14 k l_ web_ id_).2.1 (vB_u14 k l_ web_ id_).2.2.1 (vB_u14 k l_ web_ id_).2.2.2.1 (vB_u14 k l_ web_ id_).2.2.2.2 id_)) (bin_u21 (vB_u14 k l_ web_ id_).2.1 (vB_u14 k l_ web_ id_).2.2.1 (vB_u14 k l_ web_ id_).2.2.2.1 (vB_u14 k l_ web_ id_).2.2.2.2 (i64.wrap ((v_u27 k (vB_u14 k l_ web_ id_).2.1 (vB_u14 k l_ web_ id_).2.2.1 (vB_u14 k l_ web_ id_).2.2.2.1 (vB_u14 k l_ web_ id_).2.2.2.2 id_).1 * (v_u27 k (vB_u14 k l_ web_ id_).2.1 (vB_u14 k l_ web_ id_).2.2.1 (vB_u14 k l_ web_ id_).2.2.2.1 (vB_u14 k l_ web_ id_).2.2.2.2 id_).2)) (v_u19 k (vB_u14 k l_ web_ id_).2.1 (vB_u14 k l_ web_ id_).2.2.1 (vB_u14 k l_ web_ id_).2.2.2.1 (vB_u14 k l_ web_ id_).2.2.2.2 id_)) (res_u21 (v_u21 k (vB_u14 k l_ web_ id_).2.1 (vB_u14 k l_ web_ id_).2.2.1 (vB_u14 k l_ web_ id_).2.2.2.1 (vB_u14 k l_ web_ id_).2.2.2.2 (i64.wrap ((v_u27 k (vB_u14 k l_ web_ id_).2.1 (vB_u14 k l_ web_ id_).2.2.1 (vB_u14 k l_ web_ id_).2.2.2.1 (vB_u14 k l_ web_ id_).2.2.2.2 id_).1 * (v_u27 k (vB_u14 k l_ web_ id_).2.1 (vB_u14 k l_ web_ id_).2.2.1 (vB_u14 k l_ web_ id_).2.2.2.1 (vB_u14 k l_ web_ id_).2.2.2.2 id_).2)) (v_u19 k (vB_u14 k l_ web_ id_).2.1 (vB_u14 k l_ web_ id_).2.2.1 (vB_u14 k l_ web_ id_).2.2.2.1 (vB_u14 k l_ web_ id_).2.2.2.2 id_))) (bo_u21 (vB_u14 k l_ web_ id_).2.1 (vB_u14 k l_ web_ id_).2.2.1 (vB_u14 k l_ web_ id_).2.2.2.1 (vB_u14 k l_ web_ id_).2.2.2.2 (i64.wrap ((v_u27 k (vB_u14 k l_ web_ id_).2.1 (vB_u14 k l_ web_ id_).2.2.1 (vB_u14 k l_ web_ id_).2.2.2.1 (vB_u14 k l_ web_ id_).2.2.2.2 id_).1 * (v_u27 k (vB_u14 k l_ web_ id_).2.1 (vB_u14 k l_ web_ id_).2.2.1 (vB_u14 k l_ web_ id_).2.2.2.1 (vB_u14 k l_ web_ id_).2.2.2.2 id_).2)) (v_u19 k (vB_u14 k l_ web_ id_).2.1 (vB_u14 k l_ web_ id_).2.2.1 (vB_u14 k l_ web_ id_).2.2.2.1 (vB_u14 k l_ web_ id_).2.2.2.2 id_) (v_u21 k (vB_u14 k l_ web_ id_).2.1 (vB_u14 k l_ web_ id_).2.2.1 (vB_u14 k l_ web_ id_).2.2.2.1 (vB_u14 k l_ web_ id_).2.2.2.2 (i64.wrap ((v_u27 k (vB_u14 k l_ web_ id_).2.1 (vB_u14 k l_ web_ id_).2.2.1 (vB_u14 k l_ web_ id_).2.2.2.1 (vB_u14 k l_ web_ id_).2.2.2.2 id_).1 * (v_u27 k (vB_u14 k l_ web_ id_).2.1 (vB_u14 k l_ web_ id_).2.2.1 (vB_u14 k l_ web_ id_).2.2.2.1 (vB_u14 k l_ web_ id_).2.2.2.2 id_).2)) (v_u19 k (vB_u14 k l_ web_ id_).2.1 (vB_u14 k l_ web_ id_).2.2.1 (vB_u14 k l_ web_ id_).2.2.2.1 (vB_u14 k l_ web_ id_).2.2.2.2 id_)))] (.leaf (res_u8 ((v_u21 k (vB_u14 k l_ web_ id_).2.1 (vB_u14 k l_ web_ id_).2.2.1 (vB_u14 k l_ web_ id_).2.2.2.1 (vB_u14 k l_ web_ id_).2.2.2.2 (i64.wrap ((v_u27 k (vB_u14 k l_ web_ id_).2.1 (vB_u14 k l_ web_ id_).2.2.1 (vB_u14 k l_ web_ id_).2.2.2.1 (vB_u14 k l_ web_ id_).2.2.2.2 id_).1 * (v_u27 k (vB_u14 k l_ web_ id_).2.1 (vB_u14 k l_ web_ id_).2.2.1 (vB_u14 k l_ web_ id_).2.2.2.1 (vB_u14 k l_ web_ id_).2.2.2.2 id_).2)) (v_u19 k (vB_u14 k l_ web_ id_).2.1 (vB_u14 k l_ web_ id_).2.2.1 (vB_u14 k l_ web_ id_).2.2.2.1 (vB_u14 k l_ web_ id_).2.2.2.2 id_), 0))) (bo_u8 l_ web_ id_ ((v_u21 k (vB_u14 k l_ web_ id_).2.1 (vB_u14 k l_ web_ id_).2.2.1 (vB_u14 k l_ web_ id_).2.2.2.1 (vB_u14 k l_ web_ id_).2.2.2.2 (i64.wrap ((v_u27 k (vB_u14 k l_ web_ id_).2.1 (vB_u14 k l_ web_ id_).2.2.1 (vB_u14 k l_ web_ id_).2.2.2.1 (vB_u14 k l_ web_ id_).2.2.2.2 id_).1 * (v_u27 k (vB_u14 k l_ web_ id_).2.1 (vB_u14 k l_ web_ id_).2.2.1 (vB_u14 k l_ web_ id_).2.2.2.1 (vB_u14 k l_ web_ id_).2.2.2.2 id_).2)) (v_u19 k (vB_u14 k l_ web_ id_).2.1 (vB_u14 k l_ web_ id_).2.2.1 (vB_u14 k l_ web_ id_).2.2.2.1 (vB_u14 k l_ web_ id_).2.2.2.2 id_), 0)))))))))) (by kernel_rfl) ?_
 refine ⟨fun c => ?_, fun c => ?_⟩
 ·rw [cond_t (show ((Sum.isLeft (v_u14 k l_ web_ id_))) = true from c)] at h
  by_cases q : ((f_u14 k l_ web_ id_).isSome = true)
  ·rw [if_pos q] at h
   refine ⟨(conjC (ccA_u14 k l_ web_ id_ q (by assumption)) conj0), ?_⟩
   refine ⟨fun c => ?_, fun c => ?_⟩
   ·rw [cond_t (show ((vA_u14 k l_ web_ id_ != (0 : Int))) = true from c)] at h
    cases h; exact ⟨rfl, rfl⟩
   ·rw [cond_f (show ((vA_u14 k l_ web_ id_ != (0 : Int))) = false from c)] at h
    cases h
  ·rw [if_neg q] at h; cases h
 ·rw [cond_f (show ((Sum.isLeft (v_u14 k l_ web_ id_))) = false from c)] at h
  by_cases q : ((f_u14 k l_ web_ id_).isSome = true)
  ·rw [if_pos q] at h
   refine ⟨(conjC (ccB_u14 k l_ web_ id_ q (by assumption)) conj0), ?_⟩
   refine ⟨fun c => ?_, fun c => ?_⟩
   ·rw [cond_t (show (((vB_u14 k l_ web_ id_).1 != (0 : Int))) = true from c)] at h
    cases h; exact ⟨rfl, rfl⟩
   ·rw [cond_f (show (((vB_u14 k l_ web_ id_).1 != (0 : Int))) = false from c)] at h
    by_cases q : ((f_u27 k (vB_u14 k l_ web_ id_).2.1 (vB_u14 k l_ web_ id_).2.2.1 (vB_u14 k l_ web_ id_).2.2.2.1 (vB_u14 k l_ web_ id_).2.2.2.2 id_).isSome = true)
    ·rw [if_pos q] at h
     refine ⟨(conjC (cc_u27 k (vB_u14 k l_ web_ id_).2.1 (vB_u14 k l_ web_ id_).2.2.1 (vB_u14 k l_ web_ id_).2.2.2.1 (vB_u14 k l_ web_ id_).2.2.2.2 id_ q) conj0), ?_⟩
     by_cases q : ((f_u19 k (vB_u14 k l_ web_ id_).2.1 (vB_u14 k l_ web_ id_).2.2.1 (vB_u14 k l_ web_ id_).2.2.2.1 (vB_u14 k l_ web_ id_).2.2.2.2 id_).isSome = true)
     ·rw [if_pos q] at h
      refine ⟨(conjC (cc_u19 k (vB_u14 k l_ web_ id_).2.1 (vB_u14 k l_ web_ id_).2.2.1 (vB_u14 k l_ web_ id_).2.2.2.1 (vB_u14 k l_ web_ id_).2.2.2.2 id_ q) conj0), ?_⟩
      by_cases q : ((f_u21 k (vB_u14 k l_ web_ id_).2.1 (vB_u14 k l_ web_ id_).2.2.1 (vB_u14 k l_ web_ id_).2.2.2.1 (vB_u14 k l_ web_ id_).2.2.2.2 (i64.wrap ((v_u27 k (vB_u14 k l_ web_ id_).2.1 (vB_u14 k l_ web_ id_).2.2.1 (vB_u14 k l_ web_ id_).2.2.2.1 (vB_u14 k l_ web_ id_).2.2.2.2 id_).1 * (v_u27 k (vB_u14 k l_ web_ id_).2.1 (vB_u14 k l_ web_ id_).2.2.1 (vB_u14 k l_ web_ id_).2.2.2.1 (vB_u14 k l_ web_ id_).2.2.2.2 id_).2)) (v_u19 k (vB_u14 k l_ web_ id_).2.1 (vB_u14 k l_ web_ id_).2.2.1 (vB_u14 k l_ web_ id_).2.2.2.1 (vB_u14 k l_ web_ id_).2.2.2.2 id_)).isSome = true)
      ·rw [if_pos q] at h
       refine ⟨(conjC (cc_u21 k (vB_u14 k l_ web_ id_).2.1 (vB_u14 k l_ web_ id_).2.2.1 (vB_u14 k l_ web_ id_).2.2.2.1 (vB_u14 k l_ web_ id_).2.2.2.2 (i64.wrap ((v_u27 k (vB_u14 k l_ web_ id_).2.1 (vB_u14 k l_ web_ id_).2.2.1 (vB_u14 k l_ web_ id_).2.2.2.1 (vB_u14 k l_ web_ id_).2.2.2.2 id_).1 * (v_u27 k (vB_u14 k l_ web_ id_).2.1 (vB_u14 k l_ web_ id_).2.2.1 (vB_u14 k l_ web_ id_).2.2.2.1 (vB_u14 k l_ web_ id_).2.2.2.2 id_).2)) (v_u19 k (vB_u14 k l_ web_ id_).2.1 (vB_u14 k l_ web_ id_).2.2.1 (vB_u14 k l_ web_ id_).2.2.2.1 (vB_u14 k l_ web_ id_).2.2.2.2 id_) q) conj0), ?_⟩
       cases h; exact ⟨rfl, rfl⟩
      ·rw [if_neg q] at h; cases h
     ·rw [if_neg q] at h; cases h
    ·rw [if_neg q] at h; cases h
  ·rw [if_neg q] at h; cases h
theorem cc_u8 (k : Nat) (l_ : List (T2).T) (web_ : T5.T) (id_ : Int) (h : (f_u8 k l_ web_ id_).isSome = true) : CC Tryz.prog 23 (args_u8 l_ web_ id_) (bin_u8 l_ web_ id_) (res_u8 (v_u8 k l_ web_ id_)) (bo_u8 l_ web_ id_ (v_u8 k l_ web_ id_)) := by
 cases e : f_u8 k l_ web_ id_ with
 | none => rw [e] at h; cases h
 | some r => rw [show v_u8 k l_ web_ id_ = r by simp [v_u8, e]]; exact of_u8 k l_ web_ id_ r e

end
end Go.AM
namespace Go.AM
open Go Go.Proofs Go.IntKind
set_option linter.unusedVariables false
noncomputable section
end
end Go.AM
namespace Go.AM
open Go Go.Proofs Go.IntKind
set_option linter.unusedVariables false
noncomputable section
abbrev R_u3 : Type := Bool
def res_u3 (r : R_u3) : AV := .r (.v (.bool (isNone (some Code.ret))))
def bo_u3 (s40 : Bool) (x0 : T2.T) (r : R_u3) : List (Nat × Blk) := [(0, .loop .done (some .ret) (rcAt Tryz.f45 2 [48]) (mkS 9 [(4, .ptr 1 0 0)])), (0, .var 4 [.r (.v (.bool r))])]
def args_u3 (s40 : Bool) (x0 : T2.T) : List AV := [.agg (rvs (enc T2 x0))]
def bin_u3 (s40 : Bool) (x0 : T2.T) : List Blk := [.loop .ready none (rcAt Tryz.f45 2 [48]) (mkS 9 [(4, .ptr 1 0 0)]), .var 4 [.r (.v (.bool s40))]]
def f_u3 (k : Nat) (s40 : Bool) (x0 : T2.T) : Option R_u3 :=
 some false
def v_u3 (k : Nat) (s40 : Bool) (x0 : T2.T) : R_u3 := (f_u3 k s40 x0).getD false
def K_u3 (k : Nat) : Calld := ⟨fun g xs => match g with
 | _ => none, fun g xs bs => match g with
 | _ => none⟩
theorem of_u3 (k : Nat) (s40 : Bool) (x0 : T2.T) (r : R_u3) (h : f_u3 k s40 x0 = some r) : YC Tryz.prog (args_u3 s40 x0) (bin_u3 s40 x0) (res_u3 r) (bo_u3 s40 x0 r) := by
 refine YC.of (by rw [show bin_u3 s40 x0 = _ from rfl]; exact List.cons_ne_nil _ _) (by kernel_rfl) ?_
 unfold f_u3 at h
 refine Ev.tree hm (R := Rt) (K := (K_u3 k)) (l := []) (C := []) (E := [.autoB [0] true []]) (n := 1000) (T := .leaf (res_u3 false) (bo_u3 s40 x0 false)) (by kernel_rfl) ?_
 cases h; exact ⟨rfl, rfl⟩
theorem cc_u3 (k : Nat) (s40 : Bool) (x0 : T2.T) (h : (f_u3 k s40 x0).isSome = true) : YC Tryz.prog (args_u3 s40 x0) (bin_u3 s40 x0) (res_u3 (v_u3 k s40 x0)) (bo_u3 s40 x0 (v_u3 k s40 x0)) := by
 cases e : f_u3 k s40 x0 with
 | none => rw [e] at h; cases h
 | some r => rw [show v_u3 k s40 x0 = r by simp [v_u3, e]]; exact of_u3 k s40 x0 r e

end
end Go.AM
namespace Go.AM
open Go Go.Proofs Go.IntKind
set_option linter.unusedVariables false
noncomputable section
abbrev RA_u22 : Type := Bool
def resA_u22 (r : RA_u22) : AV := .tup []
def boA_u22 (yield_40 : Bool) (z000 : Int) (z001 : Int) (z002 : List (T2).T) (z003 : List ((I).T × (I).T)) (z10 : Int) (r : RA_u22) : List (Nat × Blk) := [(0, .loop .done (some .ret) (rcAt Tryz.f45 2 [48]) (mkS 9 [(4, .ptr 1 0 0)])), (0, .var 4 [.r (.v (.bool r))]), (0, .var 66 [.ptr 3 0 0]), (0, .var 73 [.r (.v (.int .i64 z000)), .r (.v (.int .i64 z001)), .r (.ro T2 z002), .own 4 0]), (0, .map false I I z003), (0, .var 3 [.r (.v (.int .i64 z10))])]
abbrev RB_u22 : Type := Bool
def resB_u22 (r : RB_u22) : AV := .tup []
def boB_u22 (yield_40 : Bool) (z000 : Int) (z001 : Int) (z002 : List (T2).T) (z003 : List ((I).T × (I).T)) (z10 : Int) (r : RB_u22) : List (Nat × Blk) := [(0, .loop .ready none (rcAt Tryz.f45 2 [48]) (mkS 9 [(4, .ptr 1 0 0)])), (0, .var 4 [.r (.v (.bool r))]), (0, .var 66 [.ptr 3 0 0]), (0, .var 73 [.r (.v (.int .i64 z000)), .r (.v (.int .i64 z001)), .r (.ro T2 z002), .own 4 0]), (0, .map false I I z003), (0, .var 3 [.r (.v (.int .i64 z10))])]
abbrev R_u22 : Type := RA_u22 ⊕ RB_u22
def res_u22 (r : R_u22) : AV := match r with
 | .inl a => resA_u22 a
 | .inr a => resB_u22 a
def bo_u22 (yield_40 : Bool) (z000 : Int) (z001 : Int) (z002 : List (T2).T) (z003 : List ((I).T × (I).T)) (z10 : Int) (r : R_u22) : List (Nat × Blk) := match r with
 | .inl a => boA_u22 yield_40 z000 z001 z002 z003 z10 a
 | .inr a => boB_u22 yield_40 z000 z001 z002 z003 z10 a
def args_u22 (yield_40 : Bool) (z000 : Int) (z001 : Int) (z002 : List (T2).T) (z003 : List ((I).T × (I).T)) (z10 : Int) : List AV := [.own 0 0, .ptr 2 0 0, .ptr 5 0 0]
def bin_u22 (yield_40 : Bool) (z000 : Int) (z001 : Int) (z002 : List (T2).T) (z003 : List ((I).T × (I).T)) (z10 : Int) : List Blk := [.loop .ready none (rcAt Tryz.f45 2 [48]) (mkS 9 [(4, .ptr 1 0 0)]), .var 4 [.r (.v (.bool yield_40))], .var 66 [.ptr 3 0 0], .var 73 [.r (.v (.int .i64 z000)), .r (.v (.int .i64 z001)), .r (.ro T2 z002), .own 4 0], .map false I I z003, .var 3 [.r (.v (.int .i64 z10))]]
def st_u22_1 (yield_40 : Bool) (z000 : Int) (z001 : Int) (z002 : List (T2).T) (z003 : List ((I).T × (I).T)) (z10 : Int) (y0 : List (T2).T) (y1 : Int) (y2 : Int) (y3 : Bool) : St := ⟨mkS 26 [(0, .own 0 0), (2, .ptr 5 0 0), (9, .r (.ro T2 y0)), (10, .r (.v (.int .i64 y1))), (11, .r (.v (.int .i64 y2)))], [(0, 0, .loop .ready none (rcAt Tryz.f45 2 [48]) (mkS 9 [(4, .ptr 1 0 0)])), (1, 0, .var 4 [.r (.v (.bool y3))]), (2, 0, .var 66 [.ptr 3 0 0]), (3, 0, .var 73 [.r (.v (.int .i64 z000)), .r (.v (.int .i64 z001)), .r (.ro T2 z002), .own 4 0]), (4, 0, .map false I I z003), (5, 0, .var 3 [.r (.v (.int .i64 z10))])]⟩
def f_u22_1 (k : Nat) (yield_40 : Bool) (z000 : Int) (z001 : Int) (z002 : List (T2).T) (z003 : List ((I).T × (I).T)) (z10 : Int) : Nat → List (T2).T → Int → Int → Bool → Option R_u22
 | 0, _, _, _, _ => none
 | j + 1, y0, y1, y2, y3 =>
 bif (decide (y2 < y1)) then
 if (0 ≤ y2) ∧ (y2 < (↑y0.length : Int)) then
 bif ((y0.getD y2.toNat T2.dflt).2.1 == z10) then
 if (((y0.getD y2.toNat T2.dflt).2.1 == z10) = true) ∧ ((f_u3 k y3 (y0.getD y2.toNat T2.dflt)).isSome = true) then
 some ((.inl (v_u3 k y3 (y0.getD y2.toNat T2.dflt))))
 else none
 else
 if (((y0.getD y2.toNat T2.dflt).2.1 == z10) = false) then
 f_u22_1 k yield_40 z000 z001 z002 z003 z10 j y0 y1 ((i64.wrap (y2 + 1))) y3
 else none
 else none
 else
 some ((.inr y3))
def f_u22 (k : Nat) (yield_40 : Bool) (z000 : Int) (z001 : Int) (z002 : List (T2).T) (z003 : List ((I).T × (I).T)) (z10 : Int) : Option R_u22 :=
 f_u22_1 k yield_40 z000 z001 z002 z003 z10 k z002 ((↑z002.length : Int)) 0 yield_40
def v_u22 (k : Nat) (yield_40 : Bool) (z000 : Int) (z001 : Int) (z002 : List (T2).T) (z003 : List ((I).T × (I).T)) (z10 : Int) : R_u22 := (f_u22 k yield_40 z000 z001 z002 z003 z10).getD (.inl false)
def vA_u22 (k : Nat) (yield_40 : Bool) (z000 : Int) (z001 : Int) (z002 : List (T2).T) (z003 : List ((I).T × (I).T)) (z10 : Int) : RA_u22 := lft false (v_u22 k yield_40 z000 z001 z002 z003 z10)
def vB_u22 (k : Nat) (yield_40 : Bool) (z000 : Int) (z001 : Int) (z002 : List (T2).T) (z003 : List ((I).T × (I).T)) (z10 : Int) : RB_u22 := rgt false (v_u22 k yield_40 z000 z001 z002 z003 z10)
def K_u22 (k : Nat) : Calld := ⟨fun g xs => match g with
 | 1000000 => match xs with
  | [_] => some [false]
  | _ => none
 | _ => none, fun g xs bs => match g with
 | 1000000 => match xs, bs with
  | [.agg qx0], [.loop _ _ _ qs, .var 4 [.r (.v (.bool s40))]] => (decS [] T2 qx0).bind fun x0 => some (.one (res_u3 (v_u3 k s40 x0), bo_u3 s40 x0 (v_u3 k s40 x0)))
  | _, _ => none
 | _ => none⟩
theorem ev_u22 (k : Nat) (yield_40 : Bool) (z000 : Int) (z001 : Int) (z002 : List (T2).T) (z003 : List ((I).T × (I).T)) (z10 : Int) : ∀ j, (∀ (y0 : List (T2).T) (y1 : Int) (y2 : Int) (y3 : Bool) (r : R_u22), f_u22_1 k yield_40 z000 z001 z002 z003 z10 j y0 y1 y2 y3 = some r → Ev Tryz.prog Tryz.f64 6 (placeAt Tryz.f64 1) (st_u22_1 yield_40 z000 z001 z002 z003 z10 y0 y1 y2 y3) (res_u22 r) (bo_u22 yield_40 z000 z001 z002 z003 z10 r))
 | 0 => by
  intros; rename_i h; simp [f_u22_1] at h
 | j + 1 => by
  have ih := ev_u22 k yield_40 z000 z001 z002 z003 z10 j
  ·intro y0 y1 y2 y3 r h
   rw [f_u22_1] at h
   refine Ev.tree hm (R := Rt) (K := (K_u22 k)) (l := []) (C := [(1, [.autoB [0, 2, 9, 10, 11] false []])]) (E := [.autoB [] true []]) (n := 1000) (T := .test ((decide (y2 < y1))) (.need [0 ≤ y2, y2 < (↑y0.length : Int)] (.test (((y0.getD y2.toNat T2.dflt).2.1 == z10)) (.need [((y0.getD y2.toNat T2.dflt).2.1 == z10) = true, YC Tryz.prog (args_u3 y3 (y0.getD y2.toNat T2.dflt)) (bin_u3 y3 (y0.getD y2.toNat T2.dflt)) (res_u3 (v_u3 k y3 (y0.getD y2.toNat T2.dflt))) (bo_u3 y3 (y0.getD y2.toNat T2.dflt) (v_u3 k y3 (y0.getD y2.toNat T2.dflt)))] (.test (true) (.leaf (resA_u22 (v_u3 k y3 (y0.getD y2.toNat T2.dflt))) (boA_u22 yield_40 z000 z001 z002 z003 z10 (v_u3 k y3 (y0.getD y2.toNat T2.dflt)))) (.cut 1 (placeAt Tryz.f64 1) ⟨mkS 26 [(0, .own 0 0), (2, .ptr 5 0 0), (9, .r (.ro T2 y0)), (10, .r (.v (.int .i64 y1))), (11, .r (.v (.int .i64 ((i64.wrap (y2 + 1))))))], [(0, 0, .loop .done (some .ret) (rcAt Tryz.f45 2 [48]) (mkS 9 [(4, .ptr 1 0 0)])), (1, 0, .var 4 [.r (.v (.bool ((v_u3 k y3 (y0.getD y2.toNat T2.dflt)))))]), (2, 0, .var 66 [.ptr 3 0 0]), (3, 0, .var 73 [.r (.v (.int .i64 z000)), .r (.v (.int .i64 z001)), .r (.ro T2 z002), .own 4 0]), (4, 0, .map false I I z003), (5, 0, .var 3 [.r (.v (.int .i64 z10))])]⟩))) (.need [((y0.getD y2.toNat T2.dflt).2.1 == z10) = false] (.test (false) (.leaf (.tup []) [(0, .loop .ready none (rcAt Tryz.f45 2 [48]) (mkS 9 [(4, .ptr 1 0 0)])), (0, .var 4 [.r (.v (.bool y3))]), (0, .var 66 [.ptr 3 0 0]), (0, .var 73 [.r (.v (.int .i64 z000)), .r (.v (.int .i64 z001)), .r (.ro T2 z002), .own 4 0]), (0, .map false I I z003), (0, .var 3 [.r (.v (.int .i64 z10))])]) (.cut 1 (placeAt Tryz.f64 1) (st_u22_1 yield_40 z000 z001 z002 z003 z10 y0 y1 ((i64.wrap (y2 + 1))) y3)))))) (.leaf (resB_u22 y3) (boB_u22 yield_40 z000 z001 z002 z003 z10 y3))) (by kernel_rfl) ?_
   refine ⟨fun c => ?_, fun c => ?_⟩
   ·rw [cond_t (show ((decide (y2 < y1))) = true from c)] at h
    by_cases q : (0 ≤ y2) ∧ (y2 < (↑y0.length : Int))
    ·rw [if_pos q] at h
     refine ⟨(conjC q.1 (conjC q.2 conj0)), ?_⟩
     refine ⟨fun c => ?_, fun c => ?_⟩
     ·rw [cond_t (show (((y0.getD y2.toNat T2.dflt).2.1 == z10)) = true from c)] at h
      by_cases q : (((y0.getD y2.toNat T2.dflt).2.1 == z10) = true) ∧ ((f_u3 k y3 (y0.getD y2.toNat T2.dflt)).isSome = true)
      ·rw [if_pos q] at h
       refine ⟨(conjC q.1 (conjC (cc_u3 k y3 (y0.getD y2.toNat T2.dflt) q.2) conj0)), ?_⟩
       refine ⟨fun c => ?_, fun c => ?_⟩
       rotate_left
       ·cases c
       cases h; exact ⟨rfl, rfl⟩
      ·rw [if_neg q] at h; cases h
     ·rw [cond_f (show (((y0.getD y2.toNat T2.dflt).2.1 == z10)) = false from c)] at h
      by_cases q : (((y0.getD y2.toNat T2.dflt).2.1 == z10) = false)
      ·rw [if_pos q] at h
       refine ⟨(conjC q conj0), ?_⟩
       refine ⟨fun c => ?_, fun c => ?_⟩
       ·cases c
       exact ih y0 y1 ((i64.wrap (y2 + 1))) y3 _ h
      ·rw [if_neg q] at h; cases h
    ·rw [if_neg q] at h; cases h
   ·rw [cond_f (show ((decide (y2 < y1))) = false from c)] at h
    cases h; exact ⟨rfl, rfl⟩
theorem of_u22 (k : Nat) (yield_40 : Bool) (z000 : Int) (z001 : Int) (z002 : List (T2).T) (z003 : List ((I).T × (I).T)) (z10 : Int) (r : R_u22) (h : f_u22 k yield_40 z000 z001 z002 z003 z10 = some r) : CC Tryz.prog 64 (args_u22 yield_40 z000 z001 z002 z003 z10) (bin_u22 yield_40 z000 z001 z002 z003 z10) (res_u22 r) (bo_u22 yield_40 z000 z001 z002 z003 z10 r) := by
 refine CC.of (fn := Tryz.f64) (by kernel_rfl) (by kernel_rfl) (by kernel_rfl) (by kernel_rfl) ?_
 unfold f_u22 at h
 refine Ev.tree hm (R := Rt) (K := (K_u22 k)) (l := []) (C := [(1, [.autoB [0, 2, 9, 10, 11] false []])]) (E := [.autoB [] true []]) (n := 1000) (T := .cut 1 (placeAt Tryz.f64 1) (st_u22_1 yield_40 z000 z001 z002 z003 z10 z002 ((↑z002.length : Int)) 0 yield_40)) (by kernel_rfl) ?_
 exact (ev_u22 k yield_40 z000 z001 z002 z003 z10 k) z002 ((↑z002.length : Int)) 0 yield_40 _ h
theorem cc_u22 (k : Nat) (yield_40 : Bool) (z000 : Int) (z001 : Int) (z002 : List (T2).T) (z003 : List ((I).T × (I).T)) (z10 : Int) (h : (f_u22 k yield_40 z000 z001 z002 z003 z10).isSome = true) : CC Tryz.prog 64 (args_u22 yield_40 z000 z001 z002 z003 z10) (bin_u22 yield_40 z000 z001 z002 z003 z10) (res_u22 (v_u22 k yield_40 z000 z001 z002 z003 z10)) (bo_u22 yield_40 z000 z001 z002 z003 z10 (v_u22 k yield_40 z000 z001 z002 z003 z10)) := by
 cases e : f_u22 k yield_40 z000 z001 z002 z003 z10 with
 | none => rw [e] at h; cases h
 | some r => rw [show v_u22 k yield_40 z000 z001 z002 z003 z10 = r by simp [v_u22, e]]; exact of_u22 k yield_40 z000 z001 z002 z003 z10 r e
theorem ccA_u22 (k : Nat) (yield_40 : Bool) (z000 : Int) (z001 : Int) (z002 : List (T2).T) (z003 : List ((I).T × (I).T)) (z10 : Int) (h : (f_u22 k yield_40 z000 z001 z002 z003 z10).isSome = true) (hb : (v_u22 k yield_40 z000 z001 z002 z003 z10).isLeft = true) : CC Tryz.prog 64 (args_u22 yield_40 z000 z001 z002 z003 z10) (bin_u22 yield_40 z000 z001 z002 z003 z10) (resA_u22 (vA_u22 k yield_40 z000 z001 z002 z003 z10)) (boA_u22 yield_40 z000 z001 z002 z003 z10 (vA_u22 k yield_40 z000 z001 z002 z003 z10)) := by
 have h1 := cc_u22 k yield_40 z000 z001 z002 z003 z10 h
 unfold vA_u22
 cases e : v_u22 k yield_40 z000 z001 z002 z003 z10 with
 | inl a => rw [e] at h1 hb; exact h1
 | inr a => rw [e] at h1 hb; cases hb
theorem ccB_u22 (k : Nat) (yield_40 : Bool) (z000 : Int) (z001 : Int) (z002 : List (T2).T) (z003 : List ((I).T × (I).T)) (z10 : Int) (h : (f_u22 k yield_40 z000 z001 z002 z003 z10).isSome = true) (hb : (v_u22 k yield_40 z000 z001 z002 z003 z10).isLeft = false) : CC Tryz.prog 64 (args_u22 yield_40 z000 z001 z002 z003 z10) (bin_u22 yield_40 z000 z001 z002 z003 z10) (resB_u22 (vB_u22 k yield_40 z000 z001 z002 z003 z10)) (boB_u22 yield_40 z000 z001 z002 z003 z10 (vB_u22 k yield_40 z000 z001 z002 z003 z10)) := by
 have h1 := cc_u22 k yield_40 z000 z001 z002 z003 z10 h
 unfold vB_u22
 cases e : v_u22 k yield_40 z000 z001 z002 z003 z10 with
 | inl a => rw [e] at h1 hb; cases hb
 | inr a => rw [e] at h1 hb; exact h1

end
end Go.AM
namespace Go.AM
open Go Go.Proofs Go.IntKind
set_option linter.unusedVariables false
noncomputable section
abbrev R_u25 : Type := Bool
def res_u25 (r : R_u25) : AV := .r (.v (.bool r))
def bo_u25 (g_0 : Int) (g_1 : Int) (g_2 : List (T2).T) (g_3 : List ((I).T × (I).T)) (id_ : Int) (r : R_u25) : List (Nat × Blk) := [(0, .var 73 [.r (.v (.int .i64 g_0)), .r (.v (.int .i64 g_1)), .r (.ro T2 g_2), .own 1 0]), (0, .map false I I g_3)]
def args_u25 (g_0 : Int) (g_1 : Int) (g_2 : List (T2).T) (g_3 : List ((I).T × (I).T)) (id_ : Int) : List AV := [.ptr 0 0 0, .r (.v (.int .i64 id_))]
def bin_u25 (g_0 : Int) (g_1 : Int) (g_2 : List (T2).T) (g_3 : List ((I).T × (I).T)) (id_ : Int) : List Blk := [.var 73 [.r (.v (.int .i64 g_0)), .r (.v (.int .i64 g_1)), .r (.ro T2 g_2), .own 1 0], .map false I I g_3]
def f_u25 (k : Nat) (g_0 : Int) (g_1 : Int) (g_2 : List (T2).T) (g_3 : List ((I).T × (I).T)) (id_ : Int) : Option R_u25 :=
 if ((f_u19 k g_0 g_1 g_2 g_3 id_).isSome = true) then
 bif (Sum.isLeft (v_u22 k false g_0 g_1 g_2 g_3 (v_u19 k g_0 g_1 g_2 g_3 id_))) then
 if ((f_u22 k false g_0 g_1 g_2 g_3 (v_u19 k g_0 g_1 g_2 g_3 id_)).isSome = true) then
 some (vA_u22 k false g_0 g_1 g_2 g_3 (v_u19 k g_0 g_1 g_2 g_3 id_))
 else none
 else
 if ((f_u22 k false g_0 g_1 g_2 g_3 (v_u19 k g_0 g_1 g_2 g_3 id_)).isSome = true) then
 some true
 else none
 else none
def v_u25 (k : Nat) (g_0 : Int) (g_1 : Int) (g_2 : List (T2).T) (g_3 : List ((I).T × (I).T)) (id_ : Int) : R_u25 := (f_u25 k g_0 g_1 g_2 g_3 id_).getD false
def K_u25 (k : Nat) : Calld := ⟨fun g xs => match g with
 | 44 => match xs with
  | [.ptr _ _ _, _] => some [true, false]
  | _ => none
 | 64 => match xs with
  | [.own _ _, .ptr _ _ _, .ptr _ _ _] => some [true, true, true]
  | _ => none
 | _ => none, fun g xs bs => match g with
 | 44 => match xs, bs with
  | [.ptr 0 0 0, .r (.v (.int .i64 id_))], [.var 73 [.r (.v (.int .i64 g_0)), .r (.v (.int .i64 g_1)), .r (.ro tg_2_ qg_2), .own 1 0], .map false kg_3_ tg_3_ qg_3] => (castL tg_2_ T2 qg_2).bind fun g_2 => (castM kg_3_ tg_3_ I I qg_3).bind fun g_3 => some (.one (res_u19 (v_u19 k g_0 g_1 g_2 g_3 id_), bo_u19 g_0 g_1 g_2 g_3 id_ (v_u19 k g_0 g_1 g_2 g_3 id_)))
  | _, _ => none
 | 64 => match xs, bs with
  | [.own 0 0, .ptr 2 0 0, .ptr 5 0 0], [.loop _ _ _ qyield_, .var 4 [.r (.v (.bool yield_40))], .var 66 [.ptr 3 0 0], .var 73 [.r (.v (.int .i64 z000)), .r (.v (.int .i64 z001)), .r (.ro tz002_ qz002), .own 4 0], .map false kz003_ tz003_ qz003, .var 3 [.r (.v (.int .i64 z10))]] => (castL tz002_ T2 qz002).bind fun z002 => (castM kz003_ tz003_ I I qz003).bind fun z003 => some (.two (v_u22 k yield_40 z000 z001 z002 z003 z10).isLeft (resA_u22 (vA_u22 k yield_40 z000 z001 z002 z003 z10), boA_u22 yield_40 z000 z001 z002 z003 z10 (vA_u22 k yield_40 z000 z001 z002 z003 z10)) (resB_u22 (vB_u22 k yield_40 z000 z001 z002 z003 z10), boB_u22 yield_40 z000 z001 z002 z003 z10 (vB_u22 k yield_40 z000 z001 z002 z003 z10)))
  | _, _ => none
 | _ => none⟩
theorem of_u25 (k : Nat) (g_0 : Int) (g_1 : Int) (g_2 : List (T2).T) (g_3 : List ((I).T × (I).T)) (id_ : Int) (r : R_u25) (h : f_u25 k g_0 g_1 g_2 g_3 id_ = some r) : CC Tryz.prog 45 (args_u25 g_0 g_1 g_2 g_3 id_) (bin_u25 g_0 g_1 g_2 g_3 id_) (res_u25 r) (bo_u25 g_0 g_1 g_2 g_3 id_ r) := by
 refine CC.of (fn := Tryz.f45) (by kernel_rfl) (by kernel_rfl) (by kernel_rfl) (by kernel_rfl) ?_
 unfold f_u25 at h
 refine Ev.tree hm (R := Rt) (K := (K_u25 k)) (l := []) (C := []) (E := [.autoB [4] true []]) (n := 1000) (T := .need [CC Tryz.prog 44 (args_u19 g_0 g_1 g_2 g_3 id_) (bin_u19 g_0 g_1 g_2 g_3 id_) (res_u19 (v_u19 k g_0 g_1 g_2 g_3 id_)) (bo_u19 g_0 g_1 g_2 g_3 id_ (v_u19 k g_0 g_1 g_2 g_3 id_))] (.test ((Sum.isLeft (v_u22 k false g_0 g_1 g_2 g_3 (v_u19 k g_0 g_1 g_2 g_3 id_)))) (.need [CC Tryz.prog 64 (args_u22 false g_0 g_1 g_2 g_3 (v_u19 k g_0 g_1 g_2 g_3 id_)) (bin_u22 false g_0 g_1 g_2 g_3 (v_u19 k g_0 g_1 g_2 g_3 id_)) (resA_u22 (vA_u22 k false g_0 g_1 g_2 g_3 (v_u19 k g_0 g_1 g_2 g_3 id_))) (boA_u22 false g_0 g_1 g_2 g_3 (v_u19 k g_0 g_1 g_2 g_3 id_) (vA_u22 k false g_0 g_1 g_2 g_3 (v_u19 k g_0 g_1 g_2 g_3 id_)))] (.leaf (res_u25 (vA_u22 k false g_0 g_1 g_2 g_3 (v_u19 k g_0 g_1 g_2 g_3 id_))) (bo_u25 g_0 g_1 g_2 g_3 id_ (vA_u22 k false g_0 g_1 g_2 g_3 (v_u19 k g_0 g_1 g_2 g_3 id_))))) (.need [CC Tryz.prog 64 (args_u22 false g_0 g_1 g_2 g_3 (v_u19 k g_0 g_1 g_2 g_3 id_)) (bin_u22 false g_0 g_1 g_2 g_3 (v_u19 k g_0 g_1 g_2 g_3 id_)) (resB_u22 (vB_u22 k false g_0 g_1 g_2 g_3 (v_u19 k g_0 g_1 g_2 g_3 id_))) (boB_u22 false g_0 g_1 g_2 g_3 (v_u19 k g_0 g_1 g_2 g_3 id_) (vB_u22 k false g_0 g_1 g_2 g_3 (v_u19 k g_0 g_1 g_2 g_3 id_)))] (.leaf (res_u25 true) (bo_u25 g_0 g_1 g_2 g_3 id_ true))))) (by kernel_rfl) ?_
 by_cases q : ((f_u19 k g_0 g_1 g_2 g_3 id_).isSome = true)
 ·rw [if_pos q] at h
  refine ⟨(conjC (cc_u19 k g_0 g_1 g_2 g_3 id_ q) conj0), ?_⟩
  refine ⟨fun c => ?_, fun c => ?_⟩
  ·rw [cond_t (show ((Sum.isLeft (v_u22 k false g_0 g_1 g_2 g_3 (v_u19 k g_0 g_1 g_2 g_3 id_)))) = true from c)] at h
   by_cases q : ((f_u22 k false g_0 g_1 g_2 g_3 (v_u19 k g_0 g_1 g_2 g_3 id_)).isSome = true)
   ·rw [if_pos q] at h
    refine ⟨(conjC (ccA_u22 k false g_0 g_1 g_2 g_3 (v_u19 k g_0 g_1 g_2 g_3 id_) q (by assumption)) conj0), ?_⟩
    cases h; exact ⟨rfl, rfl⟩
   ·rw [if_neg q] at h; cases h
  ·rw [cond_f (show ((Sum.isLeft (v_u22 k false g_0 g_1 g_2 g_3 (v_u19 k g_0 g_1 g_2 g_3 id_)))) = false from c)] at h
   by_cases q : ((f_u22 k false g_0 g_1 g_2 g_3 (v_u19 k g_0 g_1 g_2 g_3 id_)).isSome = true)
   ·rw [if_pos q] at h
    refine ⟨(conjC (ccB_u22 k false g_0 g_1 g_2 g_3 (v_u19 k g_0 g_1 g_2 g_3 id_) q (by assumption)) conj0), ?_⟩
    cases h; exact ⟨rfl, rfl⟩
   ·rw [if_neg q] at h; cases h
 ·rw [if_neg q] at h; cases h
theorem cc_u25 (k : Nat) (g_0 : Int) (g_1 : Int) (g_2 : List (T2).T) (g_3 : List ((I).T × (I).T)) (id_ : Int) (h : (f_u25 k g_0 g_1 g_2 g_3 id_).isSome = true) : CC Tryz.prog 45 (args_u25 g_0 g_1 g_2 g_3 id_) (bin_u25 g_0 g_1 g_2 g_3 id_) (res_u25 (v_u25 k g_0 g_1 g_2 g_3 id_)) (bo_u25 g_0 g_1 g_2 g_3 id_ (v_u25 k g_0 g_1 g_2 g_3 id_)) := by
 cases e : f_u25 k g_0 g_1 g_2 g_3 id_ with
 | none => rw [e] at h; cases h
 | some r => rw [show v_u25 k g_0 g_1 g_2 g_3 id_ = r by simp [v_u25, e]]; exact of_u25 k g_0 g_1 g_2 g_3 id_ r e

end
end Go.AM
namespace Go.AM
open Go Go.Proofs Go.IntKind
set_option linter.unusedVariables false
noncomputable section
end
end Go.AM
namespace Go.AM
open Go Go.Proofs Go.IntKind
set_option linter.unusedVariables false
noncomputable section
abbrev R_u83 : Type := Bool
def res_u83 (r : R_u83) : AV := .r (.v (.bool r))
def bo_u83 (l_ : List (T2).T) (id_ : Int) (r : R_u83) : List (Nat × Blk) := []
def args_u83 (l_ : List (T2).T) (id_ : Int) : List AV := [.r (.ro T2 l_), .r (.v (.int .i64 id_))]
def bin_u83 (l_ : List (T2).T) (id_ : Int) : List Blk := []
def st_u83_2 (y0 : List (T2).T) (y1 : Int) (y2 : Int) : St := ⟨mkS 19 [(0, .r (.ro T2 y0)), (1, .r (.v (.int .i64 y1))), (5, .r (.v (.int .i64 y2)))], []⟩
def f_u83_2 (k : Nat) : Nat → List (T2).T → Int → Int → Option R_u83
 | 0, _, _, _ => none
 | j + 1, y0, y1, y2 =>
 bif (decide (y2 < (↑y0.length : Int))) then
 if (0 ≤ y2) ∧ (y2 < (↑y0.length : Int)) then
 bif ((y0.getD y2.toNat T2.dflt).2.1 == y1) then
 some false
 else
 f_u83_2 k j y0 y1 ((i64.wrap (y2 + 1)))
 else none
 else
 some true
def f_u83 (k : Nat) (l_ : List (T2).T) (id_ : Int) : Option R_u83 :=
 f_u83_2 k k l_ id_ 0
def v_u83 (k : Nat) (l_ : List (T2).T) (id_ : Int) : R_u83 := (f_u83 k l_ id_).getD false
def K_u83 (k : Nat) : Calld := ⟨fun g xs => match g with
 | _ => none, fun g xs bs => match g with
 | _ => none⟩
theorem ev_u83 (k : Nat) (l_ : List (T2).T) (id_ : Int) : ∀ j, (∀ (y0 : List (T2).T) (y1 : Int) (y2 : Int) (r : R_u83), f_u83_2 k j y0 y1 y2 = some r → Ev Tryz.prog Tryz.f46 0 (placeAt Tryz.f46 2) (st_u83_2 y0 y1 y2) (res_u83 r) (bo_u83 l_ id_ r))
 | 0 => by
  intros; rename_i h; simp [f_u83_2] at h
 | j + 1 => by
  have ih := ev_u83 k l_ id_ j
  ·intro y0 y1 y2 r h
   rw [f_u83_2] at h
   refine Ev.tree hm (R := Rt) (K := (K_u83 k)) (l := []) (C := [(2, [.autoB [0, 1, 5] false []])]) (E := [.autoB [4] true []]) (n := 1000) (T := .test ((decide (y2 < (↑y0.length : Int)))) (.need [0 ≤ y2, y2 < (↑y0.length : Int)] (.test (((y0.getD y2.toNat T2.dflt).2.1 == y1)) (.leaf (res_u83 false) (bo_u83 l_ id_ false)) (.cut 2 (placeAt Tryz.f46 2) (st_u83_2 y0 y1 ((i64.wrap (y2 + 1))))))) (.leaf (res_u83 true) (bo_u83 l_ id_ true))) (by kernel_rfl) ?_
   refine ⟨fun c => ?_, fun c => ?_⟩
   ·rw [cond_t (show ((decide (y2 < (↑y0.length : Int)))) = true from c)] at h
    by_cases q : (0 ≤ y2) ∧ (y2 < (↑y0.length : Int))
    ·rw [if_pos q] at h
     refine ⟨(conjC q.1 (conjC q.2 conj0)), ?_⟩
     refine ⟨fun c => ?_, fun c => ?_⟩
     ·rw [cond_t (show (((y0.getD y2.toNat T2.dflt).2.1 == y1)) = true from c)] at h
      cases h; exact ⟨rfl, rfl⟩
     ·rw [cond_f (show (((y0.getD y2.toNat T2.dflt).2.1 == y1)) = false from c)] at h
      exact ih y0 y1 ((i64.wrap (y2 + 1))) _ h
    ·rw [if_neg q] at h; cases h
   ·rw [cond_f (show ((decide (y2 < (↑y0.length : Int)))) = false from c)] at h
    cases h; exact ⟨rfl, rfl⟩
theorem of_u83 (k : Nat) (l_ : List (T2).T) (id_ : Int) (r : R_u83) (h : f_u83 k l_ id_ = some r) : CC Tryz.prog 46 (args_u83 l_ id_) (bin_u83 l_ id_) (res_u83 r) (bo_u83 l_ id_ r) := by
 refine CC.of (fn := Tryz.f46) (by kernel_rfl) (by kernel_rfl) (by kernel_rfl) (by kernel_rfl) ?_
 unfold f_u83 at h
 refine Ev.tree hm (R := Rt) (K := (K_u83 k)) (l := []) (C := [(2, [.autoB [0, 1, 5] false []])]) (E := [.autoB [4] true []]) (n := 1000) (T := .cut 2 (placeAt Tryz.f46 2) (st_u83_2 l_ id_ 0)) (by kernel_rfl) ?_
 exact (ev_u83 k l_ id_ k) l_ id_ 0 _ h
theorem cc_u83 (k : Nat) (l_ : List (T2).T) (id_ : Int) (h : (f_u83 k l_ id_).isSome = true) : CC Tryz.prog 46 (args_u83 l_ id_) (bin_u83 l_ id_) (res_u83 (v_u83 k l_ id_)) (bo_u83 l_ id_ (v_u83 k l_ id_)) := by
 cases e : f_u83 k l_ id_ with
 | none => rw [e] at h; cases h
 | some r => rw [show v_u83 k l_ id_ = r by simp [v_u83, e]]; exact of_u83 k l_ id_ r e

end
end Go.AM
namespace Go.AM
open Go Go.Proofs Go.IntKind
set_option linter.unusedVariables false
noncomputable section
end
end Go.AM
