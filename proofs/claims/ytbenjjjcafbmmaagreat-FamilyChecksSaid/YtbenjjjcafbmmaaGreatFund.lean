/- Contracts of the functions that the law reaches, and the plain law. -/
import Derived.Test.YtbenjjjcafbmmaaGreatFunc
set_option linter.unusedVariables false
set_option linter.unusedSimpArgs false
set_option linter.unusedSectionVars false
namespace Go.AM
open Go Go.Proofs
set_option linter.unusedVariables false
noncomputable section
end
end Go.AM
namespace Go.AM
open Go Go.Proofs
set_option linter.unusedVariables false
noncomputable section
end
end Go.AM
namespace Go.AM
open Go Go.Proofs
set_option linter.unusedVariables false
noncomputable section
end
end Go.AM
namespace Go.AM
open Go Go.Proofs
set_option linter.unusedVariables false
noncomputable section
end
end Go.AM
namespace Go.AM
open Go Go.Proofs

structure PtB (p : Pt) : Prop where
  a0 : 0 ≤ p.2.1
  a1 : p.2.1 ≤ 12000
  b0 : 0 ≤ p.2.2
  b1 : p.2.2 ≤ 17179869184
end Go.AM
namespace Go.AM
open Go Go.Proofs
set_option linter.unusedVariables false
noncomputable section
abbrev R_u58 : Type := T5.T
def res_u58 (r : R_u58) : AV := .agg (rvs (enc T5 r))
def bo_u58 (x_ : T3.T) (r : R_u58) : List (Nat × Blk) := []
def args_u58 (x_ : T3.T) : List AV := [.agg (rvs (enc T3 x_))]
def bin_u58 (x_ : T3.T) : List Blk := []
def f_u58 (k : Nat) (x_ : T3.T) : Option R_u58 :=
  some x_.2
def v_u58 (k : Nat) (x_ : T3.T) : R_u58 := (f_u58 k x_).getD (T5).dflt
def K_u58 (k : Nat) : Calld := ⟨fun g xs => match g with
  | _ => none, fun g xs bs => match g with
  | _ => none⟩
theorem of_u58 (k : Nat) (x_ : T3.T) (r : R_u58) (h : f_u58 k x_ = some r) : CC Tryz.prog 11 (args_u58 x_) (bin_u58 x_) (res_u58 r) (bo_u58 x_ r) := by
  refine CC.of (fn := Tryz.f11) (by kernel_rfl) (by kernel_rfl) (by kernel_rfl) (by kernel_rfl) ?_
  unfold f_u58 at h
  refine Ev.tree hm (R := Rt) (K := (K_u58 k)) (l := []) (C := []) (E := [.autoB [2] true []]) (n := 1000) (T := .leaf (res_u58 x_.2) (bo_u58 x_ x_.2)) (by kernel_rfl) ?_
  cases h; exact ⟨rfl, rfl⟩
theorem cc_u58 (k : Nat) (x_ : T3.T) (h : (f_u58 k x_).isSome = true) : CC Tryz.prog 11 (args_u58 x_) (bin_u58 x_) (res_u58 (v_u58 k x_)) (bo_u58 x_ (v_u58 k x_)) := by
  cases e : f_u58 k x_ with
  | none => rw [e] at h; cases h
  | some r => rw [show v_u58 k x_ = r by simp [v_u58, e]]; exact of_u58 k x_ r e

end
end Go.AM
namespace Go.AM
open Go Go.Proofs
set_option linter.unusedVariables false
noncomputable section
abbrev R_u56 : Type := T3.T
def res_u56 (r : R_u56) : AV := .agg (rvs (enc T3 r))
def bo_u56  (r : R_u56) : List (Nat × Blk) := []
def args_u56  : List AV := []
def bin_u56  : List Blk := []
def f_u56 (k : Nat)  : Option R_u56 :=
  some (([(1, 0, 0, 10, true, [(99, 100, true)]), (2, 1, 2, 5, true, [(99, 50, true)])], (10, 100)))
def v_u56 (k : Nat)  : R_u56 := (f_u56 k ).getD (T3).dflt
def K_u56 (k : Nat) : Calld := ⟨fun g xs => match g with
  | _ => none, fun g xs bs => match g with
  | _ => none⟩
theorem of_u56 (k : Nat)  (r : R_u56) (h : f_u56 k  = some r) : CC Tryz.prog 29 (args_u56 ) (bin_u56 ) (res_u56 r) (bo_u56  r) := by
  refine CC.of (fn := Tryz.f29) (by kernel_rfl) (by kernel_rfl) (by kernel_rfl) (by kernel_rfl) ?_
  unfold f_u56 at h
  refine Ev.tree hm (R := Rt) (K := (K_u56 k)) (l := []) (C := []) (E := [.frz 0 true T3, .autoB [0] true []]) (n := 1000) (T := .leaf (res_u56 (([(1, 0, 0, 10, true, [(99, 100, true)]), (2, 1, 2, 5, true, [(99, 50, true)])], (10, 100)))) (bo_u56  (([(1, 0, 0, 10, true, [(99, 100, true)]), (2, 1, 2, 5, true, [(99, 50, true)])], (10, 100))))) (by kernel_rfl) ?_
  cases h; exact ⟨rfl, rfl⟩
theorem cc_u56 (k : Nat)  (h : (f_u56 k ).isSome = true) : CC Tryz.prog 29 (args_u56 ) (bin_u56 ) (res_u56 (v_u56 k )) (bo_u56  (v_u56 k )) := by
  cases e : f_u56 k  with
  | none => rw [e] at h; cases h
  | some r => rw [show v_u56 k  = r by simp [v_u56, e]]; exact of_u56 k  r e

end
end Go.AM
namespace Go.AM
open Go Go.Proofs
set_option linter.unusedVariables false
noncomputable section
abbrev R_u53 : Type := Bool
def res_u53 (r : R_u53) : AV := .r (.v (.bool r))
def bo_u53  (r : R_u53) : List (Nat × Blk) := []
def args_u53  : List AV := []
def bin_u53  : List Blk := []
def f_u53 (k : Nat)  : Option R_u53 :=
  if ((f_u56 k ).isSome = true) then
  if ((f_u58 k (v_u56 k)).isSome = true) ∧ ((f_u10 k (v_u56 k).1 (v_u58 k (v_u56 k)) (2, 0, 0)).isSome = true) then
  if ((f_u58 k (v_u56 k)).isSome = true) ∧ ((f_u11 k (v_u56 k).1 (v_u58 k (v_u56 k)) (2, 0, 0)).isSome = true) then
  if ((f_u58 k (v_u56 k)).isSome = true) ∧ ((f_u5 k (v_u56 k).1 (v_u58 k (v_u56 k)) 2).isSome = true) then
  if ((f_u58 k (v_u56 k)).isSome = true) ∧ ((f_u8 k (v_u56 k).1 (v_u58 k (v_u56 k)) 1).isSome = true) then
  bif ((v_u10 k (v_u56 k).1 (v_u58 k (v_u56 k)) ((2 : Int), (0 : Int), (0 : Int))).2 != (0 : Int) || (v_u11 k (v_u56 k).1 (v_u58 k (v_u56 k)) ((2 : Int), (0 : Int), (0 : Int))).2 != (0 : Int) || (v_u5 k (v_u56 k).1 (v_u58 k (v_u56 k)) (2 : Int)).2 != (0 : Int) || (v_u8 k (v_u56 k).1 (v_u58 k (v_u56 k)) (1 : Int)).2 != (0 : Int)) then
  some false
  else
  bif (!eqT T4 (v_u10 k (v_u56 k).1 (v_u58 k (v_u56 k)) ((2 : Int), (0 : Int), (0 : Int))).1 ((1 : Int), (6 : Int), (99 : Int)) || (!eqT T4 (v_u11 k (v_u56 k).1 (v_u58 k (v_u56 k)) ((2 : Int), (0 : Int), (0 : Int))).1 ((0 : Int), (3 : Int), (0 : Int))) || (v_u8 k (v_u56 k).1 (v_u58 k (v_u56 k)) (1 : Int)).1 != (750 : Int)) then
  some false
  else
  if (((v_u5 k (v_u56 k).1 (v_u58 k (v_u56 k)) (2 : Int)).1.1 == (3 : Int) && (v_u5 k (v_u56 k).1 (v_u58 k (v_u56 k)) (2 : Int)).1.2.1 == (5 : Int) && (! (v_u5 k (v_u56 k).1 (v_u58 k (v_u56 k)) (2 : Int)).1.2.2.1) && (↑ (List.length (v_u5 k (v_u56 k).1 (v_u58 k (v_u56 k)) (2 : Int)).1.2.2.2) : Int) == (1 : Int)) = true → (0 : Int) ≤ (0 : Int)) ∧ (((v_u5 k (v_u56 k).1 (v_u58 k (v_u56 k)) (2 : Int)).1.1 == (3 : Int) && (v_u5 k (v_u56 k).1 (v_u58 k (v_u56 k)) (2 : Int)).1.2.1 == (5 : Int) && (! (v_u5 k (v_u56 k).1 (v_u58 k (v_u56 k)) (2 : Int)).1.2.2.1) && (↑ (List.length (v_u5 k (v_u56 k).1 (v_u58 k (v_u56 k)) (2 : Int)).1.2.2.2) : Int) == (1 : Int)) = true → (0 : Int) < (↑ (List.length (v_u5 k (v_u56 k).1 (v_u58 k (v_u56 k)) (2 : Int)).1.2.2.2) : Int)) then
  some ((v_u5 k (v_u56 k).1 (v_u58 k (v_u56 k)) 2).1.1 == 3 && (v_u5 k (v_u56 k).1 (v_u58 k (v_u56 k)) 2).1.2.1 == 5 && (! (v_u5 k (v_u56 k).1 (v_u58 k (v_u56 k)) 2).1.2.2.1) && (↑ (List.length (v_u5 k (v_u56 k).1 (v_u58 k (v_u56 k)) 2).1.2.2.2) : Int) == 1 && eqT T0 (List.getD (v_u5 k (v_u56 k).1 (v_u58 k (v_u56 k)) 2).1.2.2.2 (Int.toNat 0) T0.dflt) (0, 50, false))
  else none
  else none
  else none
  else none
  else none
  else none
def v_u53 (k : Nat)  : R_u53 := (f_u53 k ).getD false
def K_u53 (k : Nat) : Calld := ⟨fun g xs => match g with
  | 16 => match xs with
    | [_, _, _] => some [false, false, false]
    | _ => none
  | 10 => match xs with
    | [_, _, _] => some [false, false, false]
    | _ => none
  | 14 => match xs with
    | [_, _, _] => some [false, false, false]
    | _ => none
  | 23 => match xs with
    | [_, _, _] => some [false, false, false]
    | _ => none
  | 11 => match xs with
    | [_] => some [false]
    | _ => none
  | 29 => match xs with
    | [] => some []
    | _ => none
  | _ => none, fun g xs bs => match g with
  | 16 => match xs, bs with
    | [.r (.ro tl__ ql_), .agg qweb_, .r (.v (.int .i64 id_))], [] => (castL tl__ T2 ql_).bind fun l_ => (decS [] T5 qweb_).bind fun web_ => some (.one (res_u5 (v_u5 k l_ web_ id_), bo_u5 l_ web_ id_ (v_u5 k l_ web_ id_)))
    | _, _ => none
  | 10 => match xs, bs with
    | [.r (.ro tl__ ql_), .agg qweb_, .agg qp_], [] => (castL tl__ T2 ql_).bind fun l_ => (decS [] T5 qweb_).bind fun web_ => (decS [] T4 qp_).bind fun p_ => some (.one (res_u10 (v_u10 k l_ web_ p_), bo_u10 l_ web_ p_ (v_u10 k l_ web_ p_)))
    | _, _ => none
  | 14 => match xs, bs with
    | [.r (.ro tl__ ql_), .agg qweb_, .agg qp_], [] => (castL tl__ T2 ql_).bind fun l_ => (decS [] T5 qweb_).bind fun web_ => (decS [] T4 qp_).bind fun p_ => some (.one (res_u11 (v_u11 k l_ web_ p_), bo_u11 l_ web_ p_ (v_u11 k l_ web_ p_)))
    | _, _ => none
  | 23 => match xs, bs with
    | [.r (.ro tl__ ql_), .agg qweb_, .r (.v (.int .i64 id_))], [] => (castL tl__ T2 ql_).bind fun l_ => (decS [] T5 qweb_).bind fun web_ => some (.one (res_u8 (v_u8 k l_ web_ id_), bo_u8 l_ web_ id_ (v_u8 k l_ web_ id_)))
    | _, _ => none
  | 11 => match xs, bs with
    | [.agg qx_], [] => (decS [] T3 qx_).bind fun x_ => some (.one (res_u58 (v_u58 k x_), bo_u58 x_ (v_u58 k x_)))
    | _, _ => none
  | 29 => match xs, bs with
    | [], [] => some (.one (res_u56 (v_u56 k ), bo_u56  (v_u56 k )))
    | _, _ => none
  | _ => none⟩
theorem of_u53 (k : Nat)  (r : R_u53) (h : f_u53 k  = some r) : CC Tryz.prog 9 (args_u53 ) (bin_u53 ) (res_u53 r) (bo_u53  r) := by
  refine CC.of (fn := Tryz.f9) (by kernel_rfl) (by kernel_rfl) (by kernel_rfl) (by kernel_rfl) ?_
  unfold f_u53 at h
  refine Ev.tree hm (R := Rt) (K := (K_u53 k)) (l := []) (C := []) (E := [.autoB [0] true []]) (n := 1000) (T := .need [CC Tryz.prog 29 (args_u56 ) (bin_u56 ) (res_u56 (v_u56 k )) (bo_u56  (v_u56 k ))] (.need [CC Tryz.prog 11 (args_u58 (v_u56 k)) (bin_u58 (v_u56 k)) (res_u58 (v_u58 k (v_u56 k))) (bo_u58 (v_u56 k) (v_u58 k (v_u56 k))), CC Tryz.prog 10 (args_u10 (v_u56 k).1 (v_u58 k (v_u56 k)) (2, 0, 0)) (bin_u10 (v_u56 k).1 (v_u58 k (v_u56 k)) (2, 0, 0)) (res_u10 (v_u10 k (v_u56 k).1 (v_u58 k (v_u56 k)) (2, 0, 0))) (bo_u10 (v_u56 k).1 (v_u58 k (v_u56 k)) (2, 0, 0) (v_u10 k (v_u56 k).1 (v_u58 k (v_u56 k)) (2, 0, 0)))] (.need [CC Tryz.prog 11 (args_u58 (v_u56 k)) (bin_u58 (v_u56 k)) (res_u58 (v_u58 k (v_u56 k))) (bo_u58 (v_u56 k) (v_u58 k (v_u56 k))), CC Tryz.prog 14 (args_u11 (v_u56 k).1 (v_u58 k (v_u56 k)) (2, 0, 0)) (bin_u11 (v_u56 k).1 (v_u58 k (v_u56 k)) (2, 0, 0)) (res_u11 (v_u11 k (v_u56 k).1 (v_u58 k (v_u56 k)) (2, 0, 0))) (bo_u11 (v_u56 k).1 (v_u58 k (v_u56 k)) (2, 0, 0) (v_u11 k (v_u56 k).1 (v_u58 k (v_u56 k)) (2, 0, 0)))] (.need [CC Tryz.prog 11 (args_u58 (v_u56 k)) (bin_u58 (v_u56 k)) (res_u58 (v_u58 k (v_u56 k))) (bo_u58 (v_u56 k) (v_u58 k (v_u56 k))), CC Tryz.prog 16 (args_u5 (v_u56 k).1 (v_u58 k (v_u56 k)) 2) (bin_u5 (v_u56 k).1 (v_u58 k (v_u56 k)) 2) (res_u5 (v_u5 k (v_u56 k).1 (v_u58 k (v_u56 k)) 2)) (bo_u5 (v_u56 k).1 (v_u58 k (v_u56 k)) 2 (v_u5 k (v_u56 k).1 (v_u58 k (v_u56 k)) 2))] (.need [CC Tryz.prog 11 (args_u58 (v_u56 k)) (bin_u58 (v_u56 k)) (res_u58 (v_u58 k (v_u56 k))) (bo_u58 (v_u56 k) (v_u58 k (v_u56 k))), CC Tryz.prog 23 (args_u8 (v_u56 k).1 (v_u58 k (v_u56 k)) 1) (bin_u8 (v_u56 k).1 (v_u58 k (v_u56 k)) 1) (res_u8 (v_u8 k (v_u56 k).1 (v_u58 k (v_u56 k)) 1)) (bo_u8 (v_u56 k).1 (v_u58 k (v_u56 k)) 1 (v_u8 k (v_u56 k).1 (v_u58 k (v_u56 k)) 1))] (.test (((v_u10 k (v_u56 k).1 (v_u58 k (v_u56 k)) ((2 : Int), (0 : Int), (0 : Int))).2 != (0 : Int) || (v_u11 k (v_u56 k).1 (v_u58 k (v_u56 k)) ((2 : Int), (0 : Int), (0 : Int))).2 != (0 : Int) || (v_u5 k (v_u56 k).1 (v_u58 k (v_u56 k)) (2 : Int)).2 != (0 : Int) || (v_u8 k (v_u56 k).1 (v_u58 k (v_u56 k)) (1 : Int)).2 != (0 : Int))) (.leaf (res_u53 false) (bo_u53  false)) (.test ((!eqT T4 (v_u10 k (v_u56 k).1 (v_u58 k (v_u56 k)) ((2 : Int), (0 : Int), (0 : Int))).1 ((1 : Int), (6 : Int), (99 : Int)) || (!eqT T4 (v_u11 k (v_u56 k).1 (v_u58 k (v_u56 k)) ((2 : Int), (0 : Int), (0 : Int))).1 ((0 : Int), (3 : Int), (0 : Int))) || (v_u8 k (v_u56 k).1 (v_u58 k (v_u56 k)) (1 : Int)).1 != (750 : Int))) (.leaf (res_u53 false) (bo_u53  false)) (.need [((v_u5 k (v_u56 k).1 (v_u58 k (v_u56 k)) (2 : Int)).1.1 == (3 : Int) && (v_u5 k (v_u56 k).1 (v_u58 k (v_u56 k)) (2 : Int)).1.2.1 == (5 : Int) && (! (v_u5 k (v_u56 k).1 (v_u58 k (v_u56 k)) (2 : Int)).1.2.2.1) && (↑ (List.length (v_u5 k (v_u56 k).1 (v_u58 k (v_u56 k)) (2 : Int)).1.2.2.2) : Int) == (1 : Int)) = true → (0 : Int) ≤ (0 : Int), ((v_u5 k (v_u56 k).1 (v_u58 k (v_u56 k)) (2 : Int)).1.1 == (3 : Int) && (v_u5 k (v_u56 k).1 (v_u58 k (v_u56 k)) (2 : Int)).1.2.1 == (5 : Int) && (! (v_u5 k (v_u56 k).1 (v_u58 k (v_u56 k)) (2 : Int)).1.2.2.1) && (↑ (List.length (v_u5 k (v_u56 k).1 (v_u58 k (v_u56 k)) (2 : Int)).1.2.2.2) : Int) == (1 : Int)) = true → (0 : Int) < (↑ (List.length (v_u5 k (v_u56 k).1 (v_u58 k (v_u56 k)) (2 : Int)).1.2.2.2) : Int)] (.leaf (res_u53 ((v_u5 k (v_u56 k).1 (v_u58 k (v_u56 k)) 2).1.1 == 3 && (v_u5 k (v_u56 k).1 (v_u58 k (v_u56 k)) 2).1.2.1 == 5 && (! (v_u5 k (v_u56 k).1 (v_u58 k (v_u56 k)) 2).1.2.2.1) && (↑ (List.length (v_u5 k (v_u56 k).1 (v_u58 k (v_u56 k)) 2).1.2.2.2) : Int) == 1 && eqT T0 (List.getD (v_u5 k (v_u56 k).1 (v_u58 k (v_u56 k)) 2).1.2.2.2 (Int.toNat 0) T0.dflt) (0, 50, false))) (bo_u53  ((v_u5 k (v_u56 k).1 (v_u58 k (v_u56 k)) 2).1.1 == 3 && (v_u5 k (v_u56 k).1 (v_u58 k (v_u56 k)) 2).1.2.1 == 5 && (! (v_u5 k (v_u56 k).1 (v_u58 k (v_u56 k)) 2).1.2.2.1) && (↑ (List.length (v_u5 k (v_u56 k).1 (v_u58 k (v_u56 k)) 2).1.2.2.2) : Int) == 1 && eqT T0 (List.getD (v_u5 k (v_u56 k).1 (v_u58 k (v_u56 k)) 2).1.2.2.2 (Int.toNat 0) T0.dflt) (0, 50, false)))))))))))) (by kernel_rfl) ?_
  by_cases q : ((f_u56 k ).isSome = true)
  · rw [if_pos q] at h
    refine ⟨(conjC (cc_u56 k  q) conj0), ?_⟩
    by_cases q : ((f_u58 k (v_u56 k)).isSome = true) ∧ ((f_u10 k (v_u56 k).1 (v_u58 k (v_u56 k)) (2, 0, 0)).isSome = true)
    · rw [if_pos q] at h
      refine ⟨(conjC (cc_u58 k (v_u56 k) q.1) (conjC (cc_u10 k (v_u56 k).1 (v_u58 k (v_u56 k)) (2, 0, 0) q.2) conj0)), ?_⟩
      by_cases q : ((f_u58 k (v_u56 k)).isSome = true) ∧ ((f_u11 k (v_u56 k).1 (v_u58 k (v_u56 k)) (2, 0, 0)).isSome = true)
      · rw [if_pos q] at h
        refine ⟨(conjC (cc_u58 k (v_u56 k) q.1) (conjC (cc_u11 k (v_u56 k).1 (v_u58 k (v_u56 k)) (2, 0, 0) q.2) conj0)), ?_⟩
        by_cases q : ((f_u58 k (v_u56 k)).isSome = true) ∧ ((f_u5 k (v_u56 k).1 (v_u58 k (v_u56 k)) 2).isSome = true)
        · rw [if_pos q] at h
          refine ⟨(conjC (cc_u58 k (v_u56 k) q.1) (conjC (cc_u5 k (v_u56 k).1 (v_u58 k (v_u56 k)) 2 q.2) conj0)), ?_⟩
          by_cases q : ((f_u58 k (v_u56 k)).isSome = true) ∧ ((f_u8 k (v_u56 k).1 (v_u58 k (v_u56 k)) 1).isSome = true)
          · rw [if_pos q] at h
            refine ⟨(conjC (cc_u58 k (v_u56 k) q.1) (conjC (cc_u8 k (v_u56 k).1 (v_u58 k (v_u56 k)) 1 q.2) conj0)), ?_⟩
            refine ⟨fun c => ?_, fun c => ?_⟩
            · rw [cond_t (show (((v_u10 k (v_u56 k).1 (v_u58 k (v_u56 k)) ((2 : Int), (0 : Int), (0 : Int))).2 != (0 : Int) || (v_u11 k (v_u56 k).1 (v_u58 k (v_u56 k)) ((2 : Int), (0 : Int), (0 : Int))).2 != (0 : Int) || (v_u5 k (v_u56 k).1 (v_u58 k (v_u56 k)) (2 : Int)).2 != (0 : Int) || (v_u8 k (v_u56 k).1 (v_u58 k (v_u56 k)) (1 : Int)).2 != (0 : Int))) = true from c)] at h
              cases h; exact ⟨rfl, rfl⟩
            · rw [cond_f (show (((v_u10 k (v_u56 k).1 (v_u58 k (v_u56 k)) ((2 : Int), (0 : Int), (0 : Int))).2 != (0 : Int) || (v_u11 k (v_u56 k).1 (v_u58 k (v_u56 k)) ((2 : Int), (0 : Int), (0 : Int))).2 != (0 : Int) || (v_u5 k (v_u56 k).1 (v_u58 k (v_u56 k)) (2 : Int)).2 != (0 : Int) || (v_u8 k (v_u56 k).1 (v_u58 k (v_u56 k)) (1 : Int)).2 != (0 : Int))) = false from c)] at h
              refine ⟨fun c => ?_, fun c => ?_⟩
              · rw [cond_t (show ((!eqT T4 (v_u10 k (v_u56 k).1 (v_u58 k (v_u56 k)) ((2 : Int), (0 : Int), (0 : Int))).1 ((1 : Int), (6 : Int), (99 : Int)) || (!eqT T4 (v_u11 k (v_u56 k).1 (v_u58 k (v_u56 k)) ((2 : Int), (0 : Int), (0 : Int))).1 ((0 : Int), (3 : Int), (0 : Int))) || (v_u8 k (v_u56 k).1 (v_u58 k (v_u56 k)) (1 : Int)).1 != (750 : Int))) = true from c)] at h
                cases h; exact ⟨rfl, rfl⟩
              · rw [cond_f (show ((!eqT T4 (v_u10 k (v_u56 k).1 (v_u58 k (v_u56 k)) ((2 : Int), (0 : Int), (0 : Int))).1 ((1 : Int), (6 : Int), (99 : Int)) || (!eqT T4 (v_u11 k (v_u56 k).1 (v_u58 k (v_u56 k)) ((2 : Int), (0 : Int), (0 : Int))).1 ((0 : Int), (3 : Int), (0 : Int))) || (v_u8 k (v_u56 k).1 (v_u58 k (v_u56 k)) (1 : Int)).1 != (750 : Int))) = false from c)] at h
                by_cases q : (((v_u5 k (v_u56 k).1 (v_u58 k (v_u56 k)) (2 : Int)).1.1 == (3 : Int) && (v_u5 k (v_u56 k).1 (v_u58 k (v_u56 k)) (2 : Int)).1.2.1 == (5 : Int) && (! (v_u5 k (v_u56 k).1 (v_u58 k (v_u56 k)) (2 : Int)).1.2.2.1) && (↑ (List.length (v_u5 k (v_u56 k).1 (v_u58 k (v_u56 k)) (2 : Int)).1.2.2.2) : Int) == (1 : Int)) = true → (0 : Int) ≤ (0 : Int)) ∧ (((v_u5 k (v_u56 k).1 (v_u58 k (v_u56 k)) (2 : Int)).1.1 == (3 : Int) && (v_u5 k (v_u56 k).1 (v_u58 k (v_u56 k)) (2 : Int)).1.2.1 == (5 : Int) && (! (v_u5 k (v_u56 k).1 (v_u58 k (v_u56 k)) (2 : Int)).1.2.2.1) && (↑ (List.length (v_u5 k (v_u56 k).1 (v_u58 k (v_u56 k)) (2 : Int)).1.2.2.2) : Int) == (1 : Int)) = true → (0 : Int) < (↑ (List.length (v_u5 k (v_u56 k).1 (v_u58 k (v_u56 k)) (2 : Int)).1.2.2.2) : Int))
                · rw [if_pos q] at h
                  refine ⟨(conjC q.1 (conjC q.2 conj0)), ?_⟩
                  cases h; exact ⟨rfl, rfl⟩
                · rw [if_neg q] at h; cases h
          · rw [if_neg q] at h; cases h
        · rw [if_neg q] at h; cases h
      · rw [if_neg q] at h; cases h
    · rw [if_neg q] at h; cases h
  · rw [if_neg q] at h; cases h
theorem cc_u53 (k : Nat)  (h : (f_u53 k ).isSome = true) : CC Tryz.prog 9 (args_u53 ) (bin_u53 ) (res_u53 (v_u53 k )) (bo_u53  (v_u53 k )) := by
  cases e : f_u53 k  with
  | none => rw [e] at h; cases h
  | some r => rw [show v_u53 k  = r by simp [v_u53, e]]; exact of_u53 k  r e

end
end Go.AM
namespace Go.AM
open Go Go.Proofs
set_option linter.unusedVariables false
noncomputable section
abbrev R_u48 : Type := Bool
def res_u48 (r : R_u48) : AV := .r (.v (.bool r))
def bo_u48 (x_ : T3.T) (r : R_u48) : List (Nat × Blk) := []
def args_u48 (x_ : T3.T) : List AV := [.agg (rvs (enc T3 x_))]
def bin_u48 (x_ : T3.T) : List Blk := []
def st_u48_3 (y0 : List (T2).T) (y1 : Int) (y2 : Int) (y3 : T3.T) : St := ⟨mkS 47 [(1, .ptr 1000000 0 0), (10, .r (.ro T2 y0)), (11, .r (.v (.int .i64 y1))), (12, .r (.v (.int .i64 y2)))], [(1000000, 0, .var 24 (rvs (enc T3 y3)))]⟩
def f_u48_3 (k : Nat) : Nat → List (T2).T → Int → Int → T3.T → Option R_u48
  | 0, _, _, _, _ => none
  | j + 1, y0, y1, y2, y3 =>
  bif (decide (y2 < y1)) then
  if ((0 : Int) ≤ y2) ∧ (y2 < (↑y0.length : Int)) then
  bif (decide ((↑ (List.length (y0.getD y2.toNat T2.dflt).2.2.2.2.2) : Int) > (20 : Int)) || decide ((↑ (List.length y3.1) : Int) > (600 : Int))) then
  if ((f_u53 k ).isSome = true) then
  some (v_u53 k)
  else none
  else
  f_u48_3 k j y0 y1 ((IntKind.i64.wrap (y2 + 1))) y3
  else none
  else
  bif (v_u4 k y3.1 y3.2.1 y3.2.2 == v_u79 k y3.1 y3.2.1 y3.2.2) then
  if ((f_u4 k y3.1 y3.2.1 y3.2.2).isSome = true) ∧ ((f_u79 k y3.1 y3.2.1 y3.2.2).isSome = true) ∧ ((v_u4 k y3.1 y3.2.1 y3.2.2 == v_u79 k y3.1 y3.2.1 y3.2.2) = true) ∧ ((f_u53 k ).isSome = true) then
  some (true && v_u53 k)
  else none
  else
  if ((f_u4 k y3.1 y3.2.1 y3.2.2).isSome = true) ∧ ((f_u79 k y3.1 y3.2.1 y3.2.2).isSome = true) ∧ ((v_u4 k y3.1 y3.2.1 y3.2.2 == v_u79 k y3.1 y3.2.1 y3.2.2) = false) then
  some false
  else none
def f_u48 (k : Nat) (x_ : T3.T) : Option R_u48 :=
  bif (decide ((↑ (List.length x_.1) : Int) > (30 : Int))) then
  f_u48_3 k k x_.1 ((↑ (List.length x_.1) : Int)) 0 x_
  else
  bif (v_u4 k x_.1 x_.2.1 x_.2.2 == v_u79 k x_.1 x_.2.1 x_.2.2) then
  if ((f_u4 k x_.1 x_.2.1 x_.2.2).isSome = true) ∧ ((f_u79 k x_.1 x_.2.1 x_.2.2).isSome = true) ∧ ((v_u4 k x_.1 x_.2.1 x_.2.2 == v_u79 k x_.1 x_.2.1 x_.2.2) = true) ∧ ((f_u53 k ).isSome = true) then
  some (true && v_u53 k)
  else none
  else
  if ((f_u4 k x_.1 x_.2.1 x_.2.2).isSome = true) ∧ ((f_u79 k x_.1 x_.2.1 x_.2.2).isSome = true) ∧ ((v_u4 k x_.1 x_.2.1 x_.2.2 == v_u79 k x_.1 x_.2.1 x_.2.2) = false) then
  some false
  else none
def K_u48 (k : Nat) : Calld := ⟨fun g xs => match g with
  | 19 => match xs with
    | [_, _, _] => some [false, false, false]
    | _ => none
  | 20 => match xs with
    | [_, _, _] => some [false, false, false]
    | _ => none
  | 9 => match xs with
    | [] => some []
    | _ => none
  | _ => none, fun g xs bs => match g with
  | 19 => match xs, bs with
    | [.r (.ro tl__ ql_), .r (.v (.int .i64 width_)), .r (.v (.int .i64 length_))], [] => (castL tl__ T2 ql_).bind fun l_ => some (.one (res_u4 (v_u4 k l_ width_ length_), bo_u4 l_ width_ length_ (v_u4 k l_ width_ length_)))
    | _, _ => none
  | 20 => match xs, bs with
    | [.r (.ro tl__ ql_), .r (.v (.int .i64 width_)), .r (.v (.int .i64 length_))], [] => (castL tl__ T2 ql_).bind fun l_ => some (.one (res_u79 (v_u79 k l_ width_ length_), bo_u79 l_ width_ length_ (v_u79 k l_ width_ length_)))
    | _, _ => none
  | 9 => match xs, bs with
    | [], [] => some (.one (res_u53 (v_u53 k ), bo_u53  (v_u53 k )))
    | _, _ => none
  | _ => none⟩
theorem ev_u48 (k : Nat) (x_ : T3.T) : ∀ j, (∀ (y0 : List (T2).T) (y1 : Int) (y2 : Int) (y3 : T3.T) (r : R_u48), f_u48_3 k j y0 y1 y2 y3 = some r → Ev Tryz.prog Tryz.f5 0 (placeAt Tryz.f5 3) (st_u48_3 y0 y1 y2 y3) (res_u48 r) (bo_u48 x_ r))
  | 0 => by
    intros; rename_i h; simp [f_u48_3] at h
  | j + 1 => by
    have ih := ev_u48 k x_ j
    · intro y0 y1 y2 y3 r h
      rw [f_u48_3] at h
      refine Ev.tree hm (R := Rt) (K := (K_u48 k)) (l := []) (C := [(3, [.autoB [1, 10, 11, 12] false []])]) (E := [.autoB [2] true []]) (n := 1000) (T := .test ((decide (y2 < y1))) (.need [(0 : Int) ≤ y2, y2 < (↑y0.length : Int)] (.test ((decide ((↑ (List.length (y0.getD y2.toNat T2.dflt).2.2.2.2.2) : Int) > (20 : Int)) || decide ((↑ (List.length y3.1) : Int) > (600 : Int)))) (.need [CC Tryz.prog 9 (args_u53 ) (bin_u53 ) (res_u53 (v_u53 k )) (bo_u53  (v_u53 k ))] (.leaf (res_u48 (v_u53 k)) (bo_u48 x_ (v_u53 k)))) (.cut 3 (placeAt Tryz.f5 3) (st_u48_3 y0 y1 ((IntKind.i64.wrap (y2 + 1))) y3)))) (.test ((v_u4 k y3.1 y3.2.1 y3.2.2 == v_u79 k y3.1 y3.2.1 y3.2.2)) (.need [CC Tryz.prog 19 (args_u4 y3.1 y3.2.1 y3.2.2) (bin_u4 y3.1 y3.2.1 y3.2.2) (res_u4 (v_u4 k y3.1 y3.2.1 y3.2.2)) (bo_u4 y3.1 y3.2.1 y3.2.2 (v_u4 k y3.1 y3.2.1 y3.2.2)), CC Tryz.prog 20 (args_u79 y3.1 y3.2.1 y3.2.2) (bin_u79 y3.1 y3.2.1 y3.2.2) (res_u79 (v_u79 k y3.1 y3.2.1 y3.2.2)) (bo_u79 y3.1 y3.2.1 y3.2.2 (v_u79 k y3.1 y3.2.1 y3.2.2)), (v_u4 k y3.1 y3.2.1 y3.2.2 == v_u79 k y3.1 y3.2.1 y3.2.2) = true, CC Tryz.prog 9 (args_u53 ) (bin_u53 ) (res_u53 (v_u53 k )) (bo_u53  (v_u53 k ))] (.leaf (res_u48 (true && v_u53 k)) (bo_u48 x_ (true && v_u53 k)))) (.need [CC Tryz.prog 19 (args_u4 y3.1 y3.2.1 y3.2.2) (bin_u4 y3.1 y3.2.1 y3.2.2) (res_u4 (v_u4 k y3.1 y3.2.1 y3.2.2)) (bo_u4 y3.1 y3.2.1 y3.2.2 (v_u4 k y3.1 y3.2.1 y3.2.2)), CC Tryz.prog 20 (args_u79 y3.1 y3.2.1 y3.2.2) (bin_u79 y3.1 y3.2.1 y3.2.2) (res_u79 (v_u79 k y3.1 y3.2.1 y3.2.2)) (bo_u79 y3.1 y3.2.1 y3.2.2 (v_u79 k y3.1 y3.2.1 y3.2.2)), (v_u4 k y3.1 y3.2.1 y3.2.2 == v_u79 k y3.1 y3.2.1 y3.2.2) = false] (.leaf (res_u48 false) (bo_u48 x_ false))))) (by kernel_rfl) ?_
      refine ⟨fun c => ?_, fun c => ?_⟩
      · rw [cond_t (show ((decide (y2 < y1))) = true from c)] at h
        by_cases q : ((0 : Int) ≤ y2) ∧ (y2 < (↑y0.length : Int))
        · rw [if_pos q] at h
          refine ⟨(conjC q.1 (conjC q.2 conj0)), ?_⟩
          refine ⟨fun c => ?_, fun c => ?_⟩
          · rw [cond_t (show ((decide ((↑ (List.length (y0.getD y2.toNat T2.dflt).2.2.2.2.2) : Int) > (20 : Int)) || decide ((↑ (List.length y3.1) : Int) > (600 : Int)))) = true from c)] at h
            by_cases q : ((f_u53 k ).isSome = true)
            · rw [if_pos q] at h
              refine ⟨(conjC (cc_u53 k  q) conj0), ?_⟩
              cases h; exact ⟨rfl, rfl⟩
            · rw [if_neg q] at h; cases h
          · rw [cond_f (show ((decide ((↑ (List.length (y0.getD y2.toNat T2.dflt).2.2.2.2.2) : Int) > (20 : Int)) || decide ((↑ (List.length y3.1) : Int) > (600 : Int)))) = false from c)] at h
            exact ih y0 y1 ((IntKind.i64.wrap (y2 + 1))) y3 _ h
        · rw [if_neg q] at h; cases h
      · rw [cond_f (show ((decide (y2 < y1))) = false from c)] at h
        refine ⟨fun c => ?_, fun c => ?_⟩
        · rw [cond_t (show ((v_u4 k y3.1 y3.2.1 y3.2.2 == v_u79 k y3.1 y3.2.1 y3.2.2)) = true from c)] at h
          by_cases q : ((f_u4 k y3.1 y3.2.1 y3.2.2).isSome = true) ∧ ((f_u79 k y3.1 y3.2.1 y3.2.2).isSome = true) ∧ ((v_u4 k y3.1 y3.2.1 y3.2.2 == v_u79 k y3.1 y3.2.1 y3.2.2) = true) ∧ ((f_u53 k ).isSome = true)
          · rw [if_pos q] at h
            refine ⟨(conjC (cc_u4 k y3.1 y3.2.1 y3.2.2 q.1) (conjC (cc_u79 k y3.1 y3.2.1 y3.2.2 q.2.1) (conjC q.2.2.1 (conjC (cc_u53 k  q.2.2.2) conj0)))), ?_⟩
            cases h; exact ⟨rfl, rfl⟩
          · rw [if_neg q] at h; cases h
        · rw [cond_f (show ((v_u4 k y3.1 y3.2.1 y3.2.2 == v_u79 k y3.1 y3.2.1 y3.2.2)) = false from c)] at h
          by_cases q : ((f_u4 k y3.1 y3.2.1 y3.2.2).isSome = true) ∧ ((f_u79 k y3.1 y3.2.1 y3.2.2).isSome = true) ∧ ((v_u4 k y3.1 y3.2.1 y3.2.2 == v_u79 k y3.1 y3.2.1 y3.2.2) = false)
          · rw [if_pos q] at h
            refine ⟨(conjC (cc_u4 k y3.1 y3.2.1 y3.2.2 q.1) (conjC (cc_u79 k y3.1 y3.2.1 y3.2.2 q.2.1) (conjC q.2.2 conj0))), ?_⟩
            cases h; exact ⟨rfl, rfl⟩
          · rw [if_neg q] at h; cases h
theorem of_u48 (k : Nat) (x_ : T3.T) (r : R_u48) (h : f_u48 k x_ = some r) : CC Tryz.prog 5 (args_u48 x_) (bin_u48 x_) (res_u48 r) (bo_u48 x_ r) := by
  refine CC.of (fn := Tryz.f5) (by kernel_rfl) (by kernel_rfl) (by kernel_rfl) (by kernel_rfl) ?_
  unfold f_u48 at h
  refine Ev.tree hm (R := Rt) (K := (K_u48 k)) (l := []) (C := [(3, [.autoB [1, 10, 11, 12] false []])]) (E := [.autoB [2] true []]) (n := 1000) (T := .test ((decide ((↑ (List.length x_.1) : Int) > (30 : Int)))) (.cut 3 (placeAt Tryz.f5 3) (st_u48_3 x_.1 ((↑ (List.length x_.1) : Int)) 0 x_)) (.test ((v_u4 k x_.1 x_.2.1 x_.2.2 == v_u79 k x_.1 x_.2.1 x_.2.2)) (.need [CC Tryz.prog 19 (args_u4 x_.1 x_.2.1 x_.2.2) (bin_u4 x_.1 x_.2.1 x_.2.2) (res_u4 (v_u4 k x_.1 x_.2.1 x_.2.2)) (bo_u4 x_.1 x_.2.1 x_.2.2 (v_u4 k x_.1 x_.2.1 x_.2.2)), CC Tryz.prog 20 (args_u79 x_.1 x_.2.1 x_.2.2) (bin_u79 x_.1 x_.2.1 x_.2.2) (res_u79 (v_u79 k x_.1 x_.2.1 x_.2.2)) (bo_u79 x_.1 x_.2.1 x_.2.2 (v_u79 k x_.1 x_.2.1 x_.2.2)), (v_u4 k x_.1 x_.2.1 x_.2.2 == v_u79 k x_.1 x_.2.1 x_.2.2) = true, CC Tryz.prog 9 (args_u53 ) (bin_u53 ) (res_u53 (v_u53 k )) (bo_u53  (v_u53 k ))] (.leaf (res_u48 (true && v_u53 k)) (bo_u48 x_ (true && v_u53 k)))) (.need [CC Tryz.prog 19 (args_u4 x_.1 x_.2.1 x_.2.2) (bin_u4 x_.1 x_.2.1 x_.2.2) (res_u4 (v_u4 k x_.1 x_.2.1 x_.2.2)) (bo_u4 x_.1 x_.2.1 x_.2.2 (v_u4 k x_.1 x_.2.1 x_.2.2)), CC Tryz.prog 20 (args_u79 x_.1 x_.2.1 x_.2.2) (bin_u79 x_.1 x_.2.1 x_.2.2) (res_u79 (v_u79 k x_.1 x_.2.1 x_.2.2)) (bo_u79 x_.1 x_.2.1 x_.2.2 (v_u79 k x_.1 x_.2.1 x_.2.2)), (v_u4 k x_.1 x_.2.1 x_.2.2 == v_u79 k x_.1 x_.2.1 x_.2.2) = false] (.leaf (res_u48 false) (bo_u48 x_ false))))) (by kernel_rfl) ?_
  refine ⟨fun c => ?_, fun c => ?_⟩
  · rw [cond_t (show ((decide ((↑ (List.length x_.1) : Int) > (30 : Int)))) = true from c)] at h
    exact (ev_u48 k x_ k) x_.1 ((↑ (List.length x_.1) : Int)) 0 x_ _ h
  · rw [cond_f (show ((decide ((↑ (List.length x_.1) : Int) > (30 : Int)))) = false from c)] at h
    refine ⟨fun c => ?_, fun c => ?_⟩
    · rw [cond_t (show ((v_u4 k x_.1 x_.2.1 x_.2.2 == v_u79 k x_.1 x_.2.1 x_.2.2)) = true from c)] at h
      by_cases q : ((f_u4 k x_.1 x_.2.1 x_.2.2).isSome = true) ∧ ((f_u79 k x_.1 x_.2.1 x_.2.2).isSome = true) ∧ ((v_u4 k x_.1 x_.2.1 x_.2.2 == v_u79 k x_.1 x_.2.1 x_.2.2) = true) ∧ ((f_u53 k ).isSome = true)
      · rw [if_pos q] at h
        refine ⟨(conjC (cc_u4 k x_.1 x_.2.1 x_.2.2 q.1) (conjC (cc_u79 k x_.1 x_.2.1 x_.2.2 q.2.1) (conjC q.2.2.1 (conjC (cc_u53 k  q.2.2.2) conj0)))), ?_⟩
        cases h; exact ⟨rfl, rfl⟩
      · rw [if_neg q] at h; cases h
    · rw [cond_f (show ((v_u4 k x_.1 x_.2.1 x_.2.2 == v_u79 k x_.1 x_.2.1 x_.2.2)) = false from c)] at h
      by_cases q : ((f_u4 k x_.1 x_.2.1 x_.2.2).isSome = true) ∧ ((f_u79 k x_.1 x_.2.1 x_.2.2).isSome = true) ∧ ((v_u4 k x_.1 x_.2.1 x_.2.2 == v_u79 k x_.1 x_.2.1 x_.2.2) = false)
      · rw [if_pos q] at h
        refine ⟨(conjC (cc_u4 k x_.1 x_.2.1 x_.2.2 q.1) (conjC (cc_u79 k x_.1 x_.2.1 x_.2.2 q.2.1) (conjC q.2.2 conj0))), ?_⟩
        cases h; exact ⟨rfl, rfl⟩
      · rw [if_neg q] at h; cases h
end
end Go.AM
namespace Go.AM
open Go Go.Proofs
set_option linter.unusedVariables false
noncomputable section
end
end Go.AM
namespace Go.AM
open Go Go.Proofs
set_option linter.unusedVariables false
noncomputable section
end
end Go.AM
namespace Go.AM
open Go Go.Proofs
set_option linter.unusedVariables false
noncomputable section
end
end Go.AM
namespace Go.AM
open Go Go.Proofs
set_option linter.unusedVariables false
noncomputable section
end
end Go.AM
namespace Go.AM
open Go Go.Proofs
set_option linter.unusedVariables false
noncomputable section
end
end Go.AM
namespace Go.AM
open Go Go.Proofs
set_option linter.unusedVariables false
noncomputable section
end
end Go.AM
namespace Go.AM
open Go Go.Proofs
set_option linter.unusedVariables false
noncomputable section
end
end Go.AM
namespace Go.AM
open Go Go.Proofs

/-! ### the small register -/
def sm1 : Ro := (1, 0, 0, 10, true, [(99, 100, true)])
def sm2 : Ro := (2, 1, 2, 5, true, [(99, 50, true)])
def sm : List Ro := [sm1, sm2]
theorem single_one (r : Rn) (h : good r) (hc : chk [r] = 0) (hn : Nr (-1) [spn r]) : singleS [r] = true := by
  have e : nf ([r].map spn) = [spn r] := nf_self (spn_in (m := [r]) ⟨h, trivial⟩) hn
  unfold singleS
  rw [e, hc]
  have := h.lohi
  show (decide ((0 : Int) = 0) && ((hi r + 1 - lo r + 0) == r.2.1 + 0)) = true
  rw [beq_iff_eq.2 (by omega)]; rfl
theorem sm_reg : Reg sm 10 100 := by
  have h1 : singleS [(99, 100, true)] = true := single_one _ (by decide) (by decide) ⟨by decide, by decide, trivial⟩
  have h2 : singleS [(99, 50, true)] = true := single_one _ (by decide) (by decide) ⟨by decide, by decide, trivial⟩
  refine ⟨by decide, by decide, by decide, ?_⟩
  have o1 : Okp 10 100 ([] ++ [sm1]) := .snoc [] sm1 .nil ⟨by decide, by decide, .inl rfl, ⟨by decide, by decide, by decide, chk_zero.1 (by decide), by decide, h1, by decide⟩⟩ rfl rfl
  exact .snoc [sm1] sm2 o1 ⟨by decide, by decide, .inr ⟨sm1, rfl⟩, ⟨by decide, by decide, by decide, chk_zero.1 (by decide), by decide, h2, by decide⟩⟩ rfl rfl
theorem sm_err1 : errS sm 10 100 1 = 0 := errS_zero.2 ⟨sm_reg, .inr ⟨sm1, rfl⟩⟩
theorem sm_err2 : errS sm 10 100 2 = 0 := errS_zero.2 ⟨sm_reg, .inr ⟨sm2, rfl⟩⟩
theorem sm_up : upS sm 10 100 (2, 0, 0) = ((1, 6, 99), 0) := by
  unfold upS
  rw [if_neg (fun h : errS sm 10 100 2 ≠ 0 => h sm_err2)]
  rfl
theorem sm_web : webE sm 10 100 (2, 0, 0) = ((0, 3, 0), 0) := by
  have : onE sm 10 100 (2, 0, 0) = 0 := by
    unfold onE
    rw [if_neg (fun h : errS sm 10 100 2 ≠ 0 => h sm_err2)]
    rfl
  unfold webE
  rw [if_neg (fun h => h this)]
  rfl
theorem sm_cut : cutFull sm 10 100 2 = ((3, 5, false, [(0, 50, false)]), 0) := by
  unfold cutFull
  rw [if_neg (fun h : errS sm 10 100 2 ≠ 0 => h sm_err2)]
  rfl
theorem sm_rest : restE sm 10 100 1 = (750, 0) := by
  unfold restE
  rw [if_neg (fun h : errS sm 10 100 1 ≠ 0 => h sm_err1)]
  rfl
theorem awake_s (k : Nat) (hk : 301000 ≤ k) : f_u53 k = some true := by
  have hs : v_u56 k = (sm, 10, 100) := rfl
  have hw : v_u58 k (sm, 10, 100) = (10, 100) := rfl
  unfold f_u53
  rw [hs, hw]
  show (if (some (sm, (10 : Int), (100 : Int))).isSome = true then (if true = true ∧ (f_u10 k sm (10, 100) (2, 0, 0)).isSome = true then (if true = true ∧ (f_u11 k sm (10, 100) (2, 0, 0)).isSome = true then (if true = true ∧ (f_u5 k sm (10, 100) 2).isSome = true then (if true = true ∧ (f_u8 k sm (10, 100) 1).isSome = true then
    (bif ((v_u10 k sm (10, 100) (2, 0, 0)).2 != 0 || (v_u11 k sm (10, 100) (2, 0, 0)).2 != 0 || (v_u5 k sm (10, 100) 2).2 != 0 || (v_u8 k sm (10, 100) 1).2 != 0) then some false
      else bif (!eqT T4 (v_u10 k sm (10, 100) (2, 0, 0)).1 ((1 : Int), (6 : Int), (99 : Int)) || (!eqT T4 (v_u11 k sm (10, 100) (2, 0, 0)).1 ((0 : Int), (3 : Int), (0 : Int))) || (v_u8 k sm (10, 100) 1).1 != 750) then some false
      else _) else _) else _) else _) else _) else _) = _
  rw [fam_Up_s k (by omega), fam_Web_s k (by omega), fam_Cut_s k (by omega), fam_Rest_s k (by omega), fam_Up_v k (by omega), fam_Web_v k (by omega), fam_Cut_v k (by omega), fam_Rest_v k (by omega)]
  show (if (some (sm, (10 : Int), (100 : Int))).isSome = true then (if true = true ∧ (some (upS sm 10 100 (2, 0, 0))).isSome = true then (if true = true ∧ (some (webE sm 10 100 (2, 0, 0))).isSome = true then (if true = true ∧ (some (cutFull sm 10 100 2)).isSome = true then (if true = true ∧ (some (restE sm 10 100 1)).isSome = true then
    (bif ((upS sm 10 100 (2, 0, 0)).2 != 0 || (webE sm 10 100 (2, 0, 0)).2 != 0 || (cutFull sm 10 100 2).2 != 0 || (restE sm 10 100 1).2 != 0) then some false
      else bif (!eqT T4 (upS sm 10 100 (2, 0, 0)).1 ((1 : Int), (6 : Int), (99 : Int)) || (!eqT T4 (webE sm 10 100 (2, 0, 0)).1 ((0 : Int), (3 : Int), (0 : Int))) || (restE sm 10 100 1).1 != 750) then some false
      else _) else _) else _) else _) else _) else _) = _
  rw [sm_up, sm_web, sm_cut, sm_rest]
  rfl
theorem awake_v (k : Nat) (hk : 301000 ≤ k) : v_u53 k = true := by
  unfold v_u53; rw [awake_s k hk]; rfl
theorem checks_tail (k : Nat) (hk : 301000 ≤ k) (x : List Ro × Int × Int) : (bif (v_u4 k x.1 x.2.1 x.2.2 == v_u79 k x.1 x.2.1 x.2.2) then
      (if ((f_u4 k x.1 x.2.1 x.2.2).isSome = true) ∧ ((f_u79 k x.1 x.2.1 x.2.2).isSome = true) ∧ ((v_u4 k x.1 x.2.1 x.2.2 == v_u79 k x.1 x.2.1 x.2.2) = true) ∧ ((f_u53 k).isSome = true) then some (true && v_u53 k) else none)
    else (if ((f_u4 k x.1 x.2.1 x.2.2).isSome = true) ∧ ((f_u79 k x.1 x.2.1 x.2.2).isSome = true) ∧ ((v_u4 k x.1 x.2.1 x.2.2 == v_u79 k x.1 x.2.1 x.2.2) = false) then some false else none)) = some true := by
  rw [fam_Check_s k (by omega), fam_Check_v k (by omega), ref42_Check_s k (by omega), ref42_Check_v k (by omega), awake_s k hk, awake_v k hk, beq_self_eq_true]
  rfl
theorem checks_l (k : Nat) (hk : 301000 ≤ k) (x : List Ro × Int × Int) : ∀ (d i j : Nat), i + d = x.1.length → (x.1.length ≤ 600 → d < j) → 2 ≤ j → f_u48_3 k j x.1 (x.1.length : Int) (i : Int) x = some true := by
  intro d
  induction d with
  | zero =>
    intro i j hi hj h2
    obtain ⟨j, rfl⟩ : ∃ q, j = q + 1 := ⟨j - 1, by omega⟩
    rw [f_u48_3, decide_eq_false (by omega : ¬ (i : Int) < (x.1.length : Int)), cond_false]
    exact checks_tail k hk x
  | succ d ih =>
    intro i j hi hj h2
    obtain ⟨j, rfl⟩ : ∃ q, j = q + 1 := ⟨j - 1, by omega⟩
    rw [f_u48_3, decide_eq_true (by omega : (i : Int) < (x.1.length : Int)), cond_true, if_pos ⟨by omega, by omega⟩]
    cases hb : (decide ((List.length (x.1.getD (i : Int).toNat T2.dflt).2.2.2.2.2 : Int) > 20) || decide ((List.length x.1 : Int) > 600))
    · have h6 : x.1.length ≤ 600 := by
        have := (Bool.or_eq_false_iff.1 hb).2
        have := of_decide_eq_false this
        omega
      rw [cond_false]
      by_cases hd : d = 0 ∧ j = 1
      · rw [show IntKind.i64.wrap ((i : Int) + 1) = ((i + 1 : Nat) : Int) from wrap_id (by omega) (by omega), hd.2, f_u48_3, decide_eq_false (by omega : ¬ ((i + 1 : Nat) : Int) < (x.1.length : Int)), cond_false]
        exact checks_tail k hk x
      · rw [show IntKind.i64.wrap ((i : Int) + 1) = ((i + 1 : Nat) : Int) from wrap_id (by omega) (by omega)]
        exact ih (i + 1) j (by omega) (fun h => by have := hj h; omega) (by have := hj h6; omega)
    · rw [cond_true, awake_s k hk, awake_v k hk]; rfl
theorem q_FamilyChecks (k : Nat) (hk : 301000 ≤ k) (x : List Ro × Int × Int) : f_u48 k x = some true := by
  unfold f_u48
  by_cases h : x.1.length > 30
  · rw [decide_eq_true (by omega : (x.1.length : Int) > 30), cond_true]
    exact checks_l k hk x x.1.length 0 k (by omega) (by omega) (by omega)
  · rw [decide_eq_false (by omega : ¬ (x.1.length : Int) > 30), cond_false]
    exact checks_tail k hk x
end Go.AM
