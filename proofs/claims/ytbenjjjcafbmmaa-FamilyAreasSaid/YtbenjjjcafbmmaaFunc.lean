/- Contracts of the functions that the law reaches, and the plain law. -/
import Derived.Test.YtbenjjjcafbmmaaFunb
set_option linter.unusedVariables false
set_option linter.unusedSimpArgs false
set_option linter.unusedSectionVars false
namespace Go.AM
open Go Go.Proofs Go.IntKind
set_option linter.unusedVariables false
noncomputable section
abbrev R_u17 : Type := T1.T × Int
def res_u17 (r : R_u17) : AV := .tup [.agg (rvs (enc T1 r.1)), .r (.v (.int .i64 r.2))]
def bo_u17 (g_0 : Int) (g_1 : Int) (g_2 : List (T2).T) (g_3 : List ((I).T × (I).T)) (id_ : Int) (r : R_u17) : List (Nat × Blk) := [(0, .var 71 [.r (.v (.int .i64 g_0)), .r (.v (.int .i64 g_1)), .r (.ro T2 g_2), .own 1 0]), (0, .map false I I g_3)]
def args_u17 (g_0 : Int) (g_1 : Int) (g_2 : List (T2).T) (g_3 : List ((I).T × (I).T)) (id_ : Int) : List AV := [.ptr 0 0 0, .r (.v (.int .i64 id_))]
def bin_u17 (g_0 : Int) (g_1 : Int) (g_2 : List (T2).T) (g_3 : List ((I).T × (I).T)) (id_ : Int) : List Blk := [.var 71 [.r (.v (.int .i64 g_0)), .r (.v (.int .i64 g_1)), .r (.ro T2 g_2), .own 1 0], .map false I I g_3]
def w_u17 (g : Int → Int → List (T2).T → (List ((I).T × (I).T)) → Int → Option R_u17) (g_0 : Int) (g_1 : Int) (g_2 : List (T2).T) (g_3 : List ((I).T × (I).T)) (id_ : Int) : R_u17 := (g g_0 g_1 g_2 g_3 id_).getD ((T1).dflt, 0)
def f_u17 : Nat → Int → Int → List (T2).T → (List ((I).T × (I).T)) → Int → Option R_u17
 | 0, _, _, _, _, _ => none
 | k + 1, g_0, g_1, g_2, g_3, id_ =>
 bif (id_ == (0 : Int)) then
 bif (decide (g_1 > (0 : Int))) then
 some (((0, (g_0, (false, [(0, g_1, false)]))), 0))
 else
 some (((0, (g_0, (false, []))), 0))
 else
 if ((0 : Int) ≤ (mget I id_ g_3).getD (0 : Int)) ∧ ((mget I id_ g_3).getD (0 : Int) < (↑g_2.length : Int)) then
 if ((f_u17 k g_0 g_1 g_2 g_3 (g_2.getD (Int.toNat ((mget I id_ g_3).getD 0)) T2.dflt).2.1).isSome = true) then
 bif ((w_u17 (f_u17 k) g_0 g_1 g_2 g_3 (g_2.getD (Int.toNat ((mget I id_ g_3).getD (0 : Int))) T2.dflt).2.1).2 != (0 : Int)) then
 some (((0, (0, (false, []))), (w_u17 (f_u17 k) g_0 g_1 g_2 g_3 (g_2.getD (Int.toNat ((mget I id_ g_3).getD 0)) T2.dflt).2.1).2))
 else
 if ((f_u32 k (g_2.getD (Int.toNat ((mget I id_ g_3).getD 0)) T2.dflt).2.2.2.2.2 (w_u17 (f_u17 k) g_0 g_1 g_2 g_3 (g_2.getD (Int.toNat ((mget I id_ g_3).getD 0)) T2.dflt).2.1).1.2.2.2).isSome = true) then
 bif ((v_u32 k (g_2.getD (Int.toNat ((mget I id_ g_3).getD (0 : Int))) T2.dflt).2.2.2.2.2 (w_u17 (f_u17 k) g_0 g_1 g_2 g_3 (g_2.getD (Int.toNat ((mget I id_ g_3).getD (0 : Int))) T2.dflt).2.1).1.2.2.2).2 != (0 : Int)) then
 some (((0, (0, (false, []))), (v_u32 k (g_2.getD (Int.toNat ((mget I id_ g_3).getD 0)) T2.dflt).2.2.2.2.2 (w_u17 (f_u17 k) g_0 g_1 g_2 g_3 (g_2.getD (Int.toNat ((mget I id_ g_3).getD 0)) T2.dflt).2.1).1.2.2.2).2))
 else
 bif (w_u17 (f_u17 k) g_0 g_1 g_2 g_3 (g_2.getD (Int.toNat ((mget I id_ g_3).getD (0 : Int))) T2.dflt).2.1).1.2.2.1 then
 some (((i64.wrap (i64.wrap (i64.wrap ((w_u17 (f_u17 k) g_0 g_1 g_2 g_3 (g_2.getD (Int.toNat ((mget I id_ g_3).getD 0)) T2.dflt).2.1).1.1 + (w_u17 (f_u17 k) g_0 g_1 g_2 g_3 (g_2.getD (Int.toNat ((mget I id_ g_3).getD 0)) T2.dflt).2.1).1.2.1) - (g_2.getD (Int.toNat ((mget I id_ g_3).getD 0)) T2.dflt).2.2.1) - (g_2.getD (Int.toNat ((mget I id_ g_3).getD 0)) T2.dflt).2.2.2.1), ((g_2.getD (Int.toNat ((mget I id_ g_3).getD 0)) T2.dflt).2.2.2.1, (! (w_u17 (f_u17 k) g_0 g_1 g_2 g_3 (g_2.getD (Int.toNat ((mget I id_ g_3).getD 0)) T2.dflt).2.1).1.2.2.1 == (g_2.getD (Int.toNat ((mget I id_ g_3).getD 0)) T2.dflt).2.2.2.2.1, (v_u32 k (g_2.getD (Int.toNat ((mget I id_ g_3).getD 0)) T2.dflt).2.2.2.2.2 (w_u17 (f_u17 k) g_0 g_1 g_2 g_3 (g_2.getD (Int.toNat ((mget I id_ g_3).getD 0)) T2.dflt).2.1).1.2.2.2).1))), 0))
 else
 some (((i64.wrap ((w_u17 (f_u17 k) g_0 g_1 g_2 g_3 (g_2.getD (Int.toNat ((mget I id_ g_3).getD 0)) T2.dflt).2.1).1.1 + (g_2.getD (Int.toNat ((mget I id_ g_3).getD 0)) T2.dflt).2.2.1), ((g_2.getD (Int.toNat ((mget I id_ g_3).getD 0)) T2.dflt).2.2.2.1, (! (w_u17 (f_u17 k) g_0 g_1 g_2 g_3 (g_2.getD (Int.toNat ((mget I id_ g_3).getD 0)) T2.dflt).2.1).1.2.2.1 == (g_2.getD (Int.toNat ((mget I id_ g_3).getD 0)) T2.dflt).2.2.2.2.1, (v_u32 k (g_2.getD (Int.toNat ((mget I id_ g_3).getD 0)) T2.dflt).2.2.2.2.2 (w_u17 (f_u17 k) g_0 g_1 g_2 g_3 (g_2.getD (Int.toNat ((mget I id_ g_3).getD 0)) T2.dflt).2.1).1.2.2.2).1))), 0))
 else none
 else none
 else none
def v_u17 (k : Nat) (g_0 : Int) (g_1 : Int) (g_2 : List (T2).T) (g_3 : List ((I).T × (I).T)) (id_ : Int) : R_u17 := (f_u17 k g_0 g_1 g_2 g_3 id_).getD ((T1).dflt, 0)
def K_u17 (k : Nat) : Calld := ⟨fun g xs => match g with
 | 37 => match xs with
  | [_, _] => some [false, false]
  | _ => none
 | 23 => match xs with
  | [.ptr _ _ _, _] => some [true, false]
  | _ => none
 | _ => none, fun g xs bs => match g with
 | 37 => match xs, bs with
  | [.r (.ro tinner__ qinner_), .r (.ro touter__ qouter_)], [] => (castL tinner__ T0 qinner_).bind fun inner_ => (castL touter__ T0 qouter_).bind fun outer_ => some (.one (res_u32 (v_u32 k inner_ outer_), bo_u32 inner_ outer_ (v_u32 k inner_ outer_)))
  | _, _ => none
 | 23 => match xs, bs with
  | [.ptr 0 0 0, .r (.v (.int .i64 id_))], [.var 71 [.r (.v (.int .i64 g_0)), .r (.v (.int .i64 g_1)), .r (.ro tg_2_ qg_2), .own 1 0], .map false kg_3_ tg_3_ qg_3] => (castL tg_2_ T2 qg_2).bind fun g_2 => (castM kg_3_ tg_3_ I I qg_3).bind fun g_3 => some (.one (res_u17 (v_u17 k g_0 g_1 g_2 g_3 id_), bo_u17 g_0 g_1 g_2 g_3 id_ (v_u17 k g_0 g_1 g_2 g_3 id_)))
  | _, _ => none
 | _ => none⟩
theorem of_u17 : ∀ (k : Nat) (g_0 : Int) (g_1 : Int) (g_2 : List (T2).T) (g_3 : List ((I).T × (I).T)) (id_ : Int) (r : R_u17), f_u17 k g_0 g_1 g_2 g_3 id_ = some r → CC Try.prog 23 (args_u17 g_0 g_1 g_2 g_3 id_) (bin_u17 g_0 g_1 g_2 g_3 id_) (res_u17 r) (bo_u17 g_0 g_1 g_2 g_3 id_ r)
 | 0, g_0, g_1, g_2, g_3, id_, r, h => by simp [f_u17] at h
 | k + 1, g_0, g_1, g_2, g_3, id_, r, h => by
  have ih : ∀ (g_0 : Int) (g_1 : Int) (g_2 : List (T2).T) (g_3 : List ((I).T × (I).T)) (id_ : Int), (f_u17 k g_0 g_1 g_2 g_3 id_).isSome = true → CC Try.prog 23 (args_u17 g_0 g_1 g_2 g_3 id_) (bin_u17 g_0 g_1 g_2 g_3 id_) (res_u17 (v_u17 k g_0 g_1 g_2 g_3 id_)) (bo_u17 g_0 g_1 g_2 g_3 id_ (v_u17 k g_0 g_1 g_2 g_3 id_)) := fun g_0 g_1 g_2 g_3 id_ h => by
   cases e : f_u17 k g_0 g_1 g_2 g_3 id_ with
   | none => rw [e] at h; cases h
   | some r => rw [show v_u17 k g_0 g_1 g_2 g_3 id_ = r by simp [v_u17, e]]; exact of_u17 k g_0 g_1 g_2 g_3 id_ r e
  refine CC.of (fn := Try.f23) (by kernel_rfl) (by kernel_rfl) (by kernel_rfl) (by kernel_rfl) ?_
  rw [f_u17] at h
  refine Ev.tree hm (R := Rt) (K := (K_u17 k)) (l := []) (C := []) (E := [.frz 4 true T1, .autoB [4, 5] true []]) (n := 1000) (T := .test ((id_ == (0 : Int))) (.test ((decide (g_1 > (0 : Int)))) (.leaf (res_u17 (((0, (g_0, (false, [(0, g_1, false)]))), 0))) (bo_u17 g_0 g_1 g_2 g_3 id_ (((0, (g_0, (false, [(0, g_1, false)]))), 0)))) (.leaf (res_u17 (((0, (g_0, (false, []))), 0))) (bo_u17 g_0 g_1 g_2 g_3 id_ (((0, (g_0, (false, []))), 0))))) (.need [(0 : Int) ≤ (mget I id_ g_3).getD (0 : Int), (mget I id_ g_3).getD (0 : Int) < (↑g_2.length : Int)] (.need [CC Try.prog 23 (args_u17 g_0 g_1 g_2 g_3 (g_2.getD (Int.toNat ((mget I id_ g_3).getD 0)) T2.dflt).2.1) (bin_u17 g_0 g_1 g_2 g_3 (g_2.getD (Int.toNat ((mget I id_ g_3).getD 0)) T2.dflt).2.1) (res_u17 (v_u17 k g_0 g_1 g_2 g_3 (g_2.getD (Int.toNat ((mget I id_ g_3).getD 0)) T2.dflt).2.1)) (bo_u17 g_0 g_1 g_2 g_3 (g_2.getD (Int.toNat ((mget I id_ g_3).getD 0)) T2.dflt).2.1 (v_u17 k g_0 g_1 g_2 g_3 (g_2.getD (Int.toNat ((mget I id_ g_3).getD 0)) T2.dflt).2.1))] (.test (((v_u17 k g_0 g_1 g_2 g_3 (g_2.getD (Int.toNat ((mget I id_ g_3).getD (0 : Int))) T2.dflt).2.1).2 != (0 : Int))) (.leaf (res_u17 (((0, (0, (false, []))), (v_u17 k g_0 g_1 g_2 g_3 (g_2.getD (Int.toNat ((mget I id_ g_3).getD 0)) T2.dflt).2.1).2))) (bo_u17 g_0 g_1 g_2 g_3 id_ (((0, (0, (false, []))), (v_u17 k g_0 g_1 g_2 g_3 (g_2.getD (Int.toNat ((mget I id_ g_3).getD 0)) T2.dflt).2.1).2)))) (.need [CC Try.prog 37 (args_u32 (g_2.getD (Int.toNat ((mget I id_ g_3).getD 0)) T2.dflt).2.2.2.2.2 (v_u17 k g_0 g_1 g_2 g_3 (g_2.getD (Int.toNat ((mget I id_ g_3).getD 0)) T2.dflt).2.1).1.2.2.2) (bin_u32 (g_2.getD (Int.toNat ((mget I id_ g_3).getD 0)) T2.dflt).2.2.2.2.2 (v_u17 k g_0 g_1 g_2 g_3 (g_2.getD (Int.toNat ((mget I id_ g_3).getD 0)) T2.dflt).2.1).1.2.2.2) (res_u32 (v_u32 k (g_2.getD (Int.toNat ((mget I id_ g_3).getD 0)) T2.dflt).2.2.2.2.2 (v_u17 k g_0 g_1 g_2 g_3 (g_2.getD (Int.toNat ((mget I id_ g_3).getD 0)) T2.dflt).2.1).1.2.2.2)) (bo_u32 (g_2.getD (Int.toNat ((mget I id_ g_3).getD 0)) T2.dflt).2.2.2.2.2 (v_u17 k g_0 g_1 g_2 g_3 (g_2.getD (Int.toNat ((mget I id_ g_3).getD 0)) T2.dflt).2.1).1.2.2.2 (v_u32 k (g_2.getD (Int.toNat ((mget I id_ g_3).getD 0)) T2.dflt).2.2.2.2.2 (v_u17 k g_0 g_1 g_2 g_3 (g_2.getD (Int.toNat ((mget I id_ g_3).getD 0)) T2.dflt).2.1).1.2.2.2))] (.test (((v_u32 k (g_2.getD (Int.toNat ((mget I id_ g_3).getD (0 : Int))) T2.dflt).2.2.2.2.2 (v_u17 k g_0 g_1 g_2 g_3 (g_2.getD (Int.toNat ((mget I id_ g_3).getD (0 : Int))) T2.dflt).2.1).1.2.2.2).2 != (0 : Int))) (.leaf (res_u17 (((0, (0, (false, []))), (v_u32 k (g_2.getD (Int.toNat ((mget I id_ g_3).getD 0)) T2.dflt).2.2.2.2.2 (v_u17 k g_0 g_1 g_2 g_3 (g_2.getD (Int.toNat ((mget I id_ g_3).getD 0)) T2.dflt).2.1).1.2.2.2).2))) (bo_u17 g_0 g_1 g_2 g_3 id_ (((0, (0, (false, []))), (v_u32 k (g_2.getD (Int.toNat ((mget I id_ g_3).getD 0)) T2.dflt).2.2.2.2.2 (v_u17 k g_0 g_1 g_2 g_3 (g_2.getD (Int.toNat ((mget I id_ g_3).getD 0)) T2.dflt).2.1).1.2.2.2).2)))) (.test ((v_u17 k g_0 g_1 g_2 g_3 (g_2.getD (Int.toNat ((mget I id_ g_3).getD (0 : Int))) T2.dflt).2.1).1.2.2.1) (.leaf (res_u17 (((i64.wrap (i64.wrap (i64.wrap ((v_u17 k g_0 g_1 g_2 g_3 (g_2.getD (Int.toNat ((mget I id_ g_3).getD 0)) T2.dflt).2.1).1.1 + (v_u17 k g_0 g_1 g_2 g_3 (g_2.getD (Int.toNat ((mget I id_ g_3).getD 0)) T2.dflt).2.1).1.2.1) - (g_2.getD (Int.toNat ((mget I id_ g_3).getD 0)) T2.dflt).2.2.1) - (g_2.getD (Int.toNat ((mget I id_ g_3).getD 0)) T2.dflt).2.2.2.1), ((g_2.getD (Int.toNat ((mget I id_ g_3).getD 0)) T2.dflt).2.2.2.1, (! (v_u17 k g_0 g_1 g_2 g_3 (g_2.getD (Int.toNat ((mget I id_ g_3).getD 0)) T2.dflt).2.1).1.2.2.1 == (g_2.getD (Int.toNat ((mget I id_ g_3).getD 0)) T2.dflt).2.2.2.2.1, (v_u32 k (g_2.getD (Int.toNat ((mget I id_ g_3).getD 0)) T2.dflt).2.2.2.2.2 (v_u17 k g_0 g_1 g_2 g_3 (g_2.getD (Int.toNat ((mget I id_ g_3).getD 0)) T2.dflt).2.1).1.2.2.2).1))), 0))) (bo_u17 g_0 g_1 g_2 g_3 id_ (((i64.wrap (i64.wrap (i64.wrap ((v_u17 k g_0 g_1 g_2 g_3 (g_2.getD (Int.toNat ((mget I id_ g_3).getD 0)) T2.dflt).2.1).1.1 + (v_u17 k g_0 g_1 g_2 g_3 (g_2.getD (Int.toNat ((mget I id_ g_3).getD 0)) T2.dflt).2.1).1.2.1) - (g_2.getD (Int.toNat ((mget I id_ g_3).getD 0)) T2.dflt).2.2.1) - (g_2.getD (Int.toNat ((mget I id_ g_3).getD 0)) T2.dflt).2.2.2.1), ((g_2.getD (Int.toNat ((mget I id_ g_3).getD 0)) T2.dflt).2.2.2.1, (! (v_u17 k g_0 g_1 g_2 g_3 (g_2.getD (Int.toNat ((mget I id_ g_3).getD 0)) T2.dflt).2.1).1.2.2.1 == (g_2.getD (Int.toNat ((mget I id_ g_3).getD 0)) T2.dflt).2.2.2.2.1, (v_u32 k (g_2.getD (Int.toNat ((mget I id_ g_3).getD 0)) T2.dflt).2.2.2.2.2 (v_u17 k g_0 g_1 g_2 g_3 (g_2.getD (Int.toNat ((mget I id_ g_3).getD 0)) T2.dflt).2.1).1.2.2.2).1))), 0)))) (.leaf (res_u17 (((i64.wrap ((v_u17 k g_0 g_1 g_2 g_3 (g_2.getD (Int.toNat ((mget I id_ g_3).getD 0)) T2.dflt).2.1).1.1 + (g_2.getD (Int.toNat ((mget I id_ g_3).getD 0)) T2.dflt).2.2.1), ((g_2.getD (Int.toNat ((mget I id_ g_3).getD 0)) T2.dflt).2.2.2.1, (! (v_u17 k g_0 g_1 g_2 g_3 (g_2.getD (Int.toNat ((mget I id_ g_3).getD 0)) T2.dflt).2.1).1.2.2.1 == (g_2.getD (Int.toNat ((mget I id_ g_3).getD 0)) T2.dflt).2.2.2.2.1, (v_u32 k (g_2.getD (Int.toNat ((mget I id_ g_3).getD 0)) T2.dflt).2.2.2.2.2 (v_u17 k g_0 g_1 g_2 g_3 (g_2.getD (Int.toNat ((mget I id_ g_3).getD 0)) T2.dflt).2.1).1.2.2.2).1))), 0))) (bo_u17 g_0 g_1 g_2 g_3 id_ (((i64.wrap ((v_u17 k g_0 g_1 g_2 g_3 (g_2.getD (Int.toNat ((mget I id_ g_3).getD 0)) T2.dflt).2.1).1.1 + (g_2.getD (Int.toNat ((mget I id_ g_3).getD 0)) T2.dflt).2.2.1), ((g_2.getD (Int.toNat ((mget I id_ g_3).getD 0)) T2.dflt).2.2.2.1, (! (v_u17 k g_0 g_1 g_2 g_3 (g_2.getD (Int.toNat ((mget I id_ g_3).getD 0)) T2.dflt).2.1).1.2.2.1 == (g_2.getD (Int.toNat ((mget I id_ g_3).getD 0)) T2.dflt).2.2.2.2.1, (v_u32 k (g_2.getD (Int.toNat ((mget I id_ g_3).getD 0)) T2.dflt).2.2.2.2.2 (v_u17 k g_0 g_1 g_2 g_3 (g_2.getD (Int.toNat ((mget I id_ g_3).getD 0)) T2.dflt).2.1).1.2.2.2).1))), 0))))))))))) (by kernel_rfl) ?_
  refine ⟨fun c => ?_, fun c => ?_⟩
  ·rw [cond_t (show ((id_ == (0 : Int))) = true from c)] at h
   refine ⟨fun c => ?_, fun c => ?_⟩
   ·rw [cond_t (show ((decide (g_1 > (0 : Int)))) = true from c)] at h
    cases h; exact ⟨rfl, rfl⟩
   ·rw [cond_f (show ((decide (g_1 > (0 : Int)))) = false from c)] at h
    cases h; exact ⟨rfl, rfl⟩
  ·rw [cond_f (show ((id_ == (0 : Int))) = false from c)] at h
   by_cases q : ((0 : Int) ≤ (mget I id_ g_3).getD (0 : Int)) ∧ ((mget I id_ g_3).getD (0 : Int) < (↑g_2.length : Int))
   ·rw [if_pos q] at h
    refine ⟨(conjC q.1 (conjC q.2 conj0)), ?_⟩
    by_cases q : ((f_u17 k g_0 g_1 g_2 g_3 (g_2.getD (Int.toNat ((mget I id_ g_3).getD 0)) T2.dflt).2.1).isSome = true)
    ·rw [if_pos q] at h
     refine ⟨(conjC (ih g_0 g_1 g_2 g_3 (g_2.getD (Int.toNat ((mget I id_ g_3).getD 0)) T2.dflt).2.1 q) conj0), ?_⟩
     refine ⟨fun c => ?_, fun c => ?_⟩
     ·rw [cond_t (show (((w_u17 (f_u17 k) g_0 g_1 g_2 g_3 (g_2.getD (Int.toNat ((mget I id_ g_3).getD (0 : Int))) T2.dflt).2.1).2 != (0 : Int))) = true from c)] at h
      cases h; exact ⟨rfl, rfl⟩
     ·rw [cond_f (show (((w_u17 (f_u17 k) g_0 g_1 g_2 g_3 (g_2.getD (Int.toNat ((mget I id_ g_3).getD (0 : Int))) T2.dflt).2.1).2 != (0 : Int))) = false from c)] at h
      by_cases q : ((f_u32 k (g_2.getD (Int.toNat ((mget I id_ g_3).getD 0)) T2.dflt).2.2.2.2.2 (w_u17 (f_u17 k) g_0 g_1 g_2 g_3 (g_2.getD (Int.toNat ((mget I id_ g_3).getD 0)) T2.dflt).2.1).1.2.2.2).isSome = true)
      ·rw [if_pos q] at h
       refine ⟨(conjC (cc_u32 k (g_2.getD (Int.toNat ((mget I id_ g_3).getD 0)) T2.dflt).2.2.2.2.2 (v_u17 k g_0 g_1 g_2 g_3 (g_2.getD (Int.toNat ((mget I id_ g_3).getD 0)) T2.dflt).2.1).1.2.2.2 q) conj0), ?_⟩
       refine ⟨fun c => ?_, fun c => ?_⟩
       ·rw [cond_t (show (((v_u32 k (g_2.getD (Int.toNat ((mget I id_ g_3).getD (0 : Int))) T2.dflt).2.2.2.2.2 (w_u17 (f_u17 k) g_0 g_1 g_2 g_3 (g_2.getD (Int.toNat ((mget I id_ g_3).getD (0 : Int))) T2.dflt).2.1).1.2.2.2).2 != (0 : Int))) = true from c)] at h
        cases h; exact ⟨rfl, rfl⟩
       ·rw [cond_f (show (((v_u32 k (g_2.getD (Int.toNat ((mget I id_ g_3).getD (0 : Int))) T2.dflt).2.2.2.2.2 (w_u17 (f_u17 k) g_0 g_1 g_2 g_3 (g_2.getD (Int.toNat ((mget I id_ g_3).getD (0 : Int))) T2.dflt).2.1).1.2.2.2).2 != (0 : Int))) = false from c)] at h
        refine ⟨fun c => ?_, fun c => ?_⟩
        ·rw [cond_t (show ((w_u17 (f_u17 k) g_0 g_1 g_2 g_3 (g_2.getD (Int.toNat ((mget I id_ g_3).getD (0 : Int))) T2.dflt).2.1).1.2.2.1) = true from c)] at h
         cases h; exact ⟨rfl, rfl⟩
        ·rw [cond_f (show ((w_u17 (f_u17 k) g_0 g_1 g_2 g_3 (g_2.getD (Int.toNat ((mget I id_ g_3).getD (0 : Int))) T2.dflt).2.1).1.2.2.1) = false from c)] at h
         cases h; exact ⟨rfl, rfl⟩
      ·rw [if_neg q] at h; cases h
    ·rw [if_neg q] at h; cases h
   ·rw [if_neg q] at h; cases h
theorem cc_u17 (k : Nat) (g_0 : Int) (g_1 : Int) (g_2 : List (T2).T) (g_3 : List ((I).T × (I).T)) (id_ : Int) (h : (f_u17 k g_0 g_1 g_2 g_3 id_).isSome = true) : CC Try.prog 23 (args_u17 g_0 g_1 g_2 g_3 id_) (bin_u17 g_0 g_1 g_2 g_3 id_) (res_u17 (v_u17 k g_0 g_1 g_2 g_3 id_)) (bo_u17 g_0 g_1 g_2 g_3 id_ (v_u17 k g_0 g_1 g_2 g_3 id_)) := by
 cases e : f_u17 k g_0 g_1 g_2 g_3 id_ with
 | none => rw [e] at h; cases h
 | some r => rw [show v_u17 k g_0 g_1 g_2 g_3 id_ = r by simp [v_u17, e]]; exact of_u17 k g_0 g_1 g_2 g_3 id_ r e

end
end Go.AM
namespace Go.AM
open Go Go.Proofs Go.IntKind
set_option linter.unusedVariables false
noncomputable section
abbrev R_u5 : Type := T1.T × Int
def res_u5 (r : R_u5) : AV := .tup [.agg (rvs (enc T1 r.1)), .r (.v (.int .i64 r.2))]
def bo_u5 (l_ : List (T2).T) (web_ : T5.T) (id_ : Int) (r : R_u5) : List (Nat × Blk) := []
def args_u5 (l_ : List (T2).T) (web_ : T5.T) (id_ : Int) : List AV := [.r (.ro T2 l_), .agg (rvs (enc T5 web_)), .r (.v (.int .i64 id_))]
def bin_u5 (l_ : List (T2).T) (web_ : T5.T) (id_ : Int) : List Blk := []
def f_u5 (k : Nat) (l_ : List (T2).T) (web_ : T5.T) (id_ : Int) : Option R_u5 :=
 bif (Sum.isLeft (v_u13 k l_ web_ id_)) then
 if ((f_u13 k l_ web_ id_).isSome = true) then
 bif (vA_u13 k l_ web_ id_ != (0 : Int)) then
 some (((0, (0, (false, []))), vA_u13 k l_ web_ id_))
 else
 none
 else none
 else
 if ((f_u13 k l_ web_ id_).isSome = true) then
 bif ((vB_u13 k l_ web_ id_).1 != (0 : Int)) then
 some (((0, (0, (false, []))), (vB_u13 k l_ web_ id_).1))
 else
 if ((f_u17 k (vB_u13 k l_ web_ id_).2.1 (vB_u13 k l_ web_ id_).2.2.1 (vB_u13 k l_ web_ id_).2.2.2.1 (vB_u13 k l_ web_ id_).2.2.2.2 id_).isSome = true) then
 some (((v_u17 k (vB_u13 k l_ web_ id_).2.1 (vB_u13 k l_ web_ id_).2.2.1 (vB_u13 k l_ web_ id_).2.2.2.1 (vB_u13 k l_ web_ id_).2.2.2.2 id_).1, (v_u17 k (vB_u13 k l_ web_ id_).2.1 (vB_u13 k l_ web_ id_).2.2.1 (vB_u13 k l_ web_ id_).2.2.2.1 (vB_u13 k l_ web_ id_).2.2.2.2 id_).2))
 else none
 else none
def v_u5 (k : Nat) (l_ : List (T2).T) (web_ : T5.T) (id_ : Int) : R_u5 := (f_u5 k l_ web_ id_).getD ((T1).dflt, 0)
def K_u5 (k : Nat) : Calld := ⟨fun g xs => match g with
 | 19 => match xs with
  | [_, _, _] => some [false, false, false]
  | _ => none
 | 23 => match xs with
  | [.ptr _ _ _, _] => some [true, false]
  | _ => none
 | _ => none, fun g xs bs => match g with
 | 19 => match xs, bs with
  | [.r (.ro tl__ ql_), .agg qweb_, .r (.v (.int .i64 id_))], [] => (castL tl__ T2 ql_).bind fun l_ => (decS [] T5 qweb_).bind fun web_ => some (.two (v_u13 k l_ web_ id_).isLeft (resA_u13 (vA_u13 k l_ web_ id_), boA_u13 l_ web_ id_ (vA_u13 k l_ web_ id_)) (resB_u13 (vB_u13 k l_ web_ id_), boB_u13 l_ web_ id_ (vB_u13 k l_ web_ id_)))
  | _, _ => none
 | 23 => match xs, bs with
  | [.ptr 0 0 0, .r (.v (.int .i64 id_))], [.var 71 [.r (.v (.int .i64 g_0)), .r (.v (.int .i64 g_1)), .r (.ro tg_2_ qg_2), .own 1 0], .map false kg_3_ tg_3_ qg_3] => (castL tg_2_ T2 qg_2).bind fun g_2 => (castM kg_3_ tg_3_ I I qg_3).bind fun g_3 => some (.one (res_u17 (v_u17 k g_0 g_1 g_2 g_3 id_), bo_u17 g_0 g_1 g_2 g_3 id_ (v_u17 k g_0 g_1 g_2 g_3 id_)))
  | _, _ => none
 | _ => none⟩
theorem of_u5 (k : Nat) (l_ : List (T2).T) (web_ : T5.T) (id_ : Int) (r : R_u5) (h : f_u5 k l_ web_ id_ = some r) : CC Try.prog 11 (args_u5 l_ web_ id_) (bin_u5 l_ web_ id_) (res_u5 r) (bo_u5 l_ web_ id_ r) := by
 refine CC.of (fn := Try.f11) (by kernel_rfl) (by kernel_rfl) (by kernel_rfl) (by kernel_rfl) ?_
 unfold f_u5 at h
 refine Ev.tree hm (R := Rt) (K := (K_u5 k)) (l := []) (C := []) (E := [.frz 6 true T1, .autoB [6, 7] true []]) (n := 1000) (T := .test ((Sum.isLeft (v_u13 k l_ web_ id_))) (.need [CC Try.prog 19 (args_u13 l_ web_ id_) (bin_u13 l_ web_ id_) (resA_u13 (vA_u13 k l_ web_ id_)) (boA_u13 l_ web_ id_ (vA_u13 k l_ web_ id_))] (.test ((vA_u13 k l_ web_ id_ != (0 : Int))) (.leaf (res_u5 (((0, (0, (false, []))), vA_u13 k l_ web_ id_))) (bo_u5 l_ web_ id_ (((0, (0, (false, []))), vA_u13 k l_ web_ id_)))) (.stuck 2002))) (.need [CC Try.prog 19 (args_u13 l_ web_ id_) (bin_u13 l_ web_ id_) (resB_u13 (vB_u13 k l_ web_ id_)) (boB_u13 l_ web_ id_ (vB_u13 k l_ web_ id_))] (.test (((vB_u13 k l_ web_ id_).1 != (0 : Int))) (.leaf (res_u5 (((0, (0, (false, []))), (vB_u13 k l_ web_ id_).1))) (bo_u5 l_ web_ id_ (((0, (0, (false, []))), (vB_u13 k l_ web_ id_).1)))) (.need [CC Try.prog 23 (args_u17 (vB_u13 k l_ web_ id_).2.1 (vB_u13 k l_ web_ id_).2.2.1 (vB_u13 k l_ web_ id_).2.2.2.1 (vB_u13 k l_ web_ id_).2.2.2.2 id_) (bin_u17 (vB_u13 k l_ web_ id_).2.1 (vB_u13 k l_ web_ id_).2.2.1 (vB_u13 k l_ web_ id_).2.2.2.1 (vB_u13 k l_ web_ id_).2.2.2.2 id_) (res_u17 (v_u17 k (vB_u13 k l_ web_ id_).2.1 (vB_u13 k l_ web_ id_).2.2.1 (vB_u13 k l_ web_ id_).2.2.2.1 (vB_u13 k l_ web_ id_).2.2.2.2 id_)) (bo_u17 (vB_u13 k l_ web_ id_).2.1 (vB_u13 k l_ web_ id_).2.2.1 (vB_u13 k l_ web_ id_).2.2.2.1 (vB_u13 k l_ web_ id_).2.2.2.2 id_ (v_u17 k (vB_u13 k l_ web_ id_).2.1 (vB_u13 k l_ web_ id_).2.2.1 (vB_u13 k l_ web_ id_).2.2.2.1 (vB_u13 k l_ web_ id_).2.2.2.2 id_))] (.leaf (res_u5 (((v_u17 k (vB_u13 k l_ web_ id_).2.1 (vB_u13 k l_ web_ id_).2.2.1 (vB_u13 k l_ web_ id_).2.2.2.1 (vB_u13 k l_ web_ id_).2.2.2.2 id_).1, (v_u17 k (vB_u13 k l_ web_ id_).2.1 (vB_u13 k l_ web_ id_).2.2.1 (vB_u13 k l_ web_ id_).2.2.2.1 (vB_u13 k l_ web_ id_).2.2.2.2 id_).2))) (bo_u5 l_ web_ id_ (((v_u17 k (vB_u13 k l_ web_ id_).2.1 (vB_u13 k l_ web_ id_).2.2.1 (vB_u13 k l_ web_ id_).2.2.2.1 (vB_u13 k l_ web_ id_).2.2.2.2 id_).1, (v_u17 k (vB_u13 k l_ web_ id_).2.1 (vB_u13 k l_ web_ id_).2.2.1 (vB_u13 k l_ web_ id_).2.2.2.1 (vB_u13 k l_ web_ id_).2.2.2.2 id_).2)))))))) (by kernel_rfl) ?_
 refine ⟨fun c => ?_, fun c => ?_⟩
 ·rw [cond_t (show ((Sum.isLeft (v_u13 k l_ web_ id_))) = true from c)] at h
  by_cases q : ((f_u13 k l_ web_ id_).isSome = true)
  ·rw [if_pos q] at h
   refine ⟨(conjC (ccA_u13 k l_ web_ id_ q (by assumption)) conj0), ?_⟩
   refine ⟨fun c => ?_, fun c => ?_⟩
   ·rw [cond_t (show ((vA_u13 k l_ web_ id_ != (0 : Int))) = true from c)] at h
    cases h; exact ⟨rfl, rfl⟩
   ·rw [cond_f (show ((vA_u13 k l_ web_ id_ != (0 : Int))) = false from c)] at h
    cases h
  ·rw [if_neg q] at h; cases h
 ·rw [cond_f (show ((Sum.isLeft (v_u13 k l_ web_ id_))) = false from c)] at h
  by_cases q : ((f_u13 k l_ web_ id_).isSome = true)
  ·rw [if_pos q] at h
   refine ⟨(conjC (ccB_u13 k l_ web_ id_ q (by assumption)) conj0), ?_⟩
   refine ⟨fun c => ?_, fun c => ?_⟩
   ·rw [cond_t (show (((vB_u13 k l_ web_ id_).1 != (0 : Int))) = true from c)] at h
    cases h; exact ⟨rfl, rfl⟩
   ·rw [cond_f (show (((vB_u13 k l_ web_ id_).1 != (0 : Int))) = false from c)] at h
    by_cases q : ((f_u17 k (vB_u13 k l_ web_ id_).2.1 (vB_u13 k l_ web_ id_).2.2.1 (vB_u13 k l_ web_ id_).2.2.2.1 (vB_u13 k l_ web_ id_).2.2.2.2 id_).isSome = true)
    ·rw [if_pos q] at h
     refine ⟨(conjC (cc_u17 k (vB_u13 k l_ web_ id_).2.1 (vB_u13 k l_ web_ id_).2.2.1 (vB_u13 k l_ web_ id_).2.2.2.1 (vB_u13 k l_ web_ id_).2.2.2.2 id_ q) conj0), ?_⟩
     cases h; exact ⟨rfl, rfl⟩
    ·rw [if_neg q] at h; cases h
  ·rw [if_neg q] at h; cases h
theorem cc_u5 (k : Nat) (l_ : List (T2).T) (web_ : T5.T) (id_ : Int) (h : (f_u5 k l_ web_ id_).isSome = true) : CC Try.prog 11 (args_u5 l_ web_ id_) (bin_u5 l_ web_ id_) (res_u5 (v_u5 k l_ web_ id_)) (bo_u5 l_ web_ id_ (v_u5 k l_ web_ id_)) := by
 cases e : f_u5 k l_ web_ id_ with
 | none => rw [e] at h; cases h
 | some r => rw [show v_u5 k l_ web_ id_ = r by simp [v_u5, e]]; exact of_u5 k l_ web_ id_ r e

end
end Go.AM
namespace Go.AM
open Go Go.Proofs Go.IntKind
set_option linter.unusedVariables false
noncomputable section
abbrev R_u18 : Type := Int
def res_u18 (r : R_u18) : AV := .fn ((Fn.func 40)) [] [.ptr 2 0 0, .ptr 3 0 0]
def bo_u18 (g_0 : Int) (g_1 : Int) (g_2 : List (T2).T) (g_3 : List ((I).T × (I).T)) (id_ : Int) (r : R_u18) : List (Nat × Blk) := [(0, .var 71 [.r (.v (.int .i64 g_0)), .r (.v (.int .i64 g_1)), .r (.ro T2 g_2), .own 1 0]), (0, .map false I I g_3), (0, .var 52 [.ptr 0 0 0]), (0, .var 3 [.r (.v (.int .i64 r))])]
def args_u18 (g_0 : Int) (g_1 : Int) (g_2 : List (T2).T) (g_3 : List ((I).T × (I).T)) (id_ : Int) : List AV := [.ptr 0 0 0, .r (.v (.int .i64 id_))]
def bin_u18 (g_0 : Int) (g_1 : Int) (g_2 : List (T2).T) (g_3 : List ((I).T × (I).T)) (id_ : Int) : List Blk := [.var 71 [.r (.v (.int .i64 g_0)), .r (.v (.int .i64 g_1)), .r (.ro T2 g_2), .own 1 0], .map false I I g_3]
def f_u18 (k : Nat) (g_0 : Int) (g_1 : Int) (g_2 : List (T2).T) (g_3 : List ((I).T × (I).T)) (id_ : Int) : Option R_u18 :=
 some id_
def v_u18 (k : Nat) (g_0 : Int) (g_1 : Int) (g_2 : List (T2).T) (g_3 : List ((I).T × (I).T)) (id_ : Int) : R_u18 := (f_u18 k g_0 g_1 g_2 g_3 id_).getD 0
def K_u18 (k : Nat) : Calld := ⟨fun g xs => match g with
 | _ => none, fun g xs bs => match g with
 | _ => none⟩
theorem of_u18 (k : Nat) (g_0 : Int) (g_1 : Int) (g_2 : List (T2).T) (g_3 : List ((I).T × (I).T)) (id_ : Int) (r : R_u18) (h : f_u18 k g_0 g_1 g_2 g_3 id_ = some r) : CC Try.prog 29 (args_u18 g_0 g_1 g_2 g_3 id_) (bin_u18 g_0 g_1 g_2 g_3 id_) (res_u18 r) (bo_u18 g_0 g_1 g_2 g_3 id_ r) := by
 refine CC.of (fn := Try.f29) (by kernel_rfl) (by kernel_rfl) (by kernel_rfl) (by kernel_rfl) ?_
 unfold f_u18 at h
 refine Ev.tree hm (R := Rt) (K := (K_u18 k)) (l := []) (C := []) (E := [.autoB [4] true []]) (n := 1000) (T := .leaf (res_u18 id_) (bo_u18 g_0 g_1 g_2 g_3 id_ id_)) (by kernel_rfl) ?_
 cases h; exact ⟨rfl, rfl⟩
theorem cc_u18 (k : Nat) (g_0 : Int) (g_1 : Int) (g_2 : List (T2).T) (g_3 : List ((I).T × (I).T)) (id_ : Int) (h : (f_u18 k g_0 g_1 g_2 g_3 id_).isSome = true) : CC Try.prog 29 (args_u18 g_0 g_1 g_2 g_3 id_) (bin_u18 g_0 g_1 g_2 g_3 id_) (res_u18 (v_u18 k g_0 g_1 g_2 g_3 id_)) (bo_u18 g_0 g_1 g_2 g_3 id_ (v_u18 k g_0 g_1 g_2 g_3 id_)) := by
 cases e : f_u18 k g_0 g_1 g_2 g_3 id_ with
 | none => rw [e] at h; cases h
 | some r => rw [show v_u18 k g_0 g_1 g_2 g_3 id_ = r by simp [v_u18, e]]; exact of_u18 k g_0 g_1 g_2 g_3 id_ r e

end
end Go.AM
namespace Go.AM
open Go Go.Proofs Go.IntKind
set_option linter.unusedVariables false
noncomputable section
abbrev R_u1 : Type := Int
def res_u1 (r : R_u1) : AV := .r (.v (.bool true))
def bo_u1 (s800 : Int) (s801 : Int) (s802 : List (T2).T) (s803 : List ((I).T × (I).T)) (s120 : Int) (x0 : T2.T) (r : R_u1) : List (Nat × Blk) := [(0, .loop .ready none (rcAt Try.f14 7 [46]) (mkS 52 [(8, .ptr 1 0 0), (12, .ptr 4 0 0)])), (0, .var 52 [.ptr 2 0 0]), (0, .var 71 [.r (.v (.int .i64 s800)), .r (.v (.int .i64 s801)), .r (.ro T2 s802), .own 3 0]), (0, .map false I I s803), (0, .var 3 [.r (.v (.int .i64 r))])]
def args_u1 (s800 : Int) (s801 : Int) (s802 : List (T2).T) (s803 : List ((I).T × (I).T)) (s120 : Int) (x0 : T2.T) : List AV := [.agg (rvs (enc T2 x0))]
def bin_u1 (s800 : Int) (s801 : Int) (s802 : List (T2).T) (s803 : List ((I).T × (I).T)) (s120 : Int) (x0 : T2.T) : List Blk := [.loop .ready none (rcAt Try.f14 7 [46]) (mkS 52 [(8, .ptr 1 0 0), (12, .ptr 4 0 0)]), .var 52 [.ptr 2 0 0], .var 71 [.r (.v (.int .i64 s800)), .r (.v (.int .i64 s801)), .r (.ro T2 s802), .own 3 0], .map false I I s803, .var 3 [.r (.v (.int .i64 s120))]]
def f_u1 (k : Nat) (s800 : Int) (s801 : Int) (s802 : List (T2).T) (s803 : List ((I).T × (I).T)) (s120 : Int) (x0 : T2.T) : Option R_u1 :=
 if ((f_u26 k s800 s801 s802 s803 x0.1).isSome = true) then
 some (i64.wrap (s120 - i64.wrap ((v_u26 k s800 s801 s802 s803 x0.1).1 * (v_u26 k s800 s801 s802 s803 x0.1).2)))
 else none
def v_u1 (k : Nat) (s800 : Int) (s801 : Int) (s802 : List (T2).T) (s803 : List ((I).T × (I).T)) (s120 : Int) (x0 : T2.T) : R_u1 := (f_u1 k s800 s801 s802 s803 s120 x0).getD 0
def K_u1 (k : Nat) : Calld := ⟨fun g xs => match g with
 | 28 => match xs with
  | [.ptr _ _ _, _] => some [true, false]
  | _ => none
 | _ => none, fun g xs bs => match g with
 | 28 => match xs, bs with
  | [.ptr 0 0 0, .r (.v (.int .i64 id_))], [.var 71 [.r (.v (.int .i64 g_0)), .r (.v (.int .i64 g_1)), .r (.ro tg_2_ qg_2), .own 1 0], .map false kg_3_ tg_3_ qg_3] => (castL tg_2_ T2 qg_2).bind fun g_2 => (castM kg_3_ tg_3_ I I qg_3).bind fun g_3 => some (.one (res_u26 (v_u26 k g_0 g_1 g_2 g_3 id_), bo_u26 g_0 g_1 g_2 g_3 id_ (v_u26 k g_0 g_1 g_2 g_3 id_)))
  | _, _ => none
 | _ => none⟩
theorem of_u1 (k : Nat) (s800 : Int) (s801 : Int) (s802 : List (T2).T) (s803 : List ((I).T × (I).T)) (s120 : Int) (x0 : T2.T) (r : R_u1) (h : f_u1 k s800 s801 s802 s803 s120 x0 = some r) : YC Try.prog (args_u1 s800 s801 s802 s803 s120 x0) (bin_u1 s800 s801 s802 s803 s120 x0) (res_u1 r) (bo_u1 s800 s801 s802 s803 s120 x0 r) := by
 refine YC.of (by rw [show bin_u1 s800 s801 s802 s803 s120 x0 = _ from rfl]; exact List.cons_ne_nil _ _) (by kernel_rfl) ?_
 unfold f_u1 at h
 refine Ev.tree hm (R := Rt) (K := (K_u1 k)) (l := []) (C := []) (E := [.autoB [0] true []]) (n := 1000) (T := .need [CC Try.prog 28 (args_u26 s800 s801 s802 s803 x0.1) (bin_u26 s800 s801 s802 s803 x0.1) (res_u26 (v_u26 k s800 s801 s802 s803 x0.1)) (bo_u26 s800 s801 s802 s803 x0.1 (v_u26 k s800 s801 s802 s803 x0.1))] (.leaf (res_u1 (i64.wrap (s120 - i64.wrap ((v_u26 k s800 s801 s802 s803 x0.1).1 * (v_u26 k s800 s801 s802 s803 x0.1).2)))) (bo_u1 s800 s801 s802 s803 s120 x0 (i64.wrap (s120 - i64.wrap ((v_u26 k s800 s801 s802 s803 x0.1).1 * (v_u26 k s800 s801 s802 s803 x0.1).2)))))) (by kernel_rfl) ?_
 by_cases q : ((f_u26 k s800 s801 s802 s803 x0.1).isSome = true)
 ·rw [if_pos q] at h
  refine ⟨(conjC (cc_u26 k s800 s801 s802 s803 x0.1 q) conj0), ?_⟩
  cases h; exact ⟨rfl, rfl⟩
 ·rw [if_neg q] at h; cases h
theorem cc_u1 (k : Nat) (s800 : Int) (s801 : Int) (s802 : List (T2).T) (s803 : List ((I).T × (I).T)) (s120 : Int) (x0 : T2.T) (h : (f_u1 k s800 s801 s802 s803 s120 x0).isSome = true) : YC Try.prog (args_u1 s800 s801 s802 s803 s120 x0) (bin_u1 s800 s801 s802 s803 s120 x0) (res_u1 (v_u1 k s800 s801 s802 s803 s120 x0)) (bo_u1 s800 s801 s802 s803 s120 x0 (v_u1 k s800 s801 s802 s803 s120 x0)) := by
 cases e : f_u1 k s800 s801 s802 s803 s120 x0 with
 | none => rw [e] at h; cases h
 | some r => rw [show v_u1 k s800 s801 s802 s803 s120 x0 = r by simp [v_u1, e]]; exact of_u1 k s800 s801 s802 s803 s120 x0 r e

end
end Go.AM
namespace Go.AM
open Go Go.Proofs Go.IntKind
set_option linter.unusedVariables false
noncomputable section
abbrev R_u20 : Type := Int
def res_u20 (r : R_u20) : AV := .tup []
def bo_u20 (yield_800 : Int) (yield_801 : Int) (yield_802 : List (T2).T) (yield_803 : List ((I).T × (I).T)) (yield_120 : Int) (z10 : Int) (r : R_u20) : List (Nat × Blk) := [(0, .loop .ready none (rcAt Try.f14 7 [46]) (mkS 52 [(8, .ptr 1 0 0), (12, .ptr 4 0 0)])), (0, .var 52 [.ptr 2 0 0]), (0, .var 71 [.r (.v (.int .i64 yield_800)), .r (.v (.int .i64 yield_801)), .r (.ro T2 yield_802), .own 3 0]), (0, .map false I I yield_803), (0, .var 3 [.r (.v (.int .i64 r))]), (0, .var 52 [.ptr 2 0 0]), (0, .var 3 [.r (.v (.int .i64 z10))])]
def args_u20 (yield_800 : Int) (yield_801 : Int) (yield_802 : List (T2).T) (yield_803 : List ((I).T × (I).T)) (yield_120 : Int) (z10 : Int) : List AV := [.own 0 0, .ptr 5 0 0, .ptr 6 0 0]
def bin_u20 (yield_800 : Int) (yield_801 : Int) (yield_802 : List (T2).T) (yield_803 : List ((I).T × (I).T)) (yield_120 : Int) (z10 : Int) : List Blk := [.loop .ready none (rcAt Try.f14 7 [46]) (mkS 52 [(8, .ptr 1 0 0), (12, .ptr 4 0 0)]), .var 52 [.ptr 2 0 0], .var 71 [.r (.v (.int .i64 yield_800)), .r (.v (.int .i64 yield_801)), .r (.ro T2 yield_802), .own 3 0], .map false I I yield_803, .var 3 [.r (.v (.int .i64 yield_120))], .var 52 [.ptr 2 0 0], .var 3 [.r (.v (.int .i64 z10))]]
def st_u20_1 (yield_800 : Int) (yield_801 : Int) (yield_802 : List (T2).T) (yield_803 : List ((I).T × (I).T)) (yield_120 : Int) (z10 : Int) (y0 : List (T2).T) (y1 : Int) (y2 : Int) (y3 : Int) : St := ⟨mkS 26 [(0, .own 0 0), (2, .ptr 6 0 0), (9, .r (.ro T2 y0)), (10, .r (.v (.int .i64 y1))), (11, .r (.v (.int .i64 y2)))], [(0, 0, .loop .ready none (rcAt Try.f14 7 [46]) (mkS 52 [(8, .ptr 1 0 0), (12, .ptr 4 0 0)])), (1, 0, .var 52 [.ptr 2 0 0]), (2, 0, .var 71 [.r (.v (.int .i64 yield_800)), .r (.v (.int .i64 yield_801)), .r (.ro T2 yield_802), .own 3 0]), (3, 0, .map false I I yield_803), (4, 0, .var 3 [.r (.v (.int .i64 y3))]), (5, 0, .var 52 [.ptr 2 0 0]), (6, 0, .var 3 [.r (.v (.int .i64 z10))])]⟩
def f_u20_1 (k : Nat) (yield_800 : Int) (yield_801 : Int) (yield_802 : List (T2).T) (yield_803 : List ((I).T × (I).T)) (yield_120 : Int) (z10 : Int) : Nat → List (T2).T → Int → Int → Int → Option R_u20
 | 0, _, _, _, _ => none
 | j + 1, y0, y1, y2, y3 =>
 bif (decide (y2 < y1)) then
 if (0 ≤ y2) ∧ (y2 < (↑y0.length : Int)) then
 bif ((y0.getD y2.toNat T2.dflt).2.1 == z10) then
 if (((y0.getD y2.toNat T2.dflt).2.1 == z10) = true) ∧ ((f_u1 k yield_800 yield_801 yield_802 yield_803 y3 (y0.getD y2.toNat T2.dflt)).isSome = true) then
 f_u20_1 k yield_800 yield_801 yield_802 yield_803 yield_120 z10 j y0 y1 ((i64.wrap (y2 + 1))) ((v_u1 k yield_800 yield_801 yield_802 yield_803 y3 (y0.getD y2.toNat T2.dflt)))
 else none
 else
 if (((y0.getD y2.toNat T2.dflt).2.1 == z10) = false) then
 f_u20_1 k yield_800 yield_801 yield_802 yield_803 yield_120 z10 j y0 y1 ((i64.wrap (y2 + 1))) y3
 else none
 else none
 else
 some y3
def f_u20 (k : Nat) (yield_800 : Int) (yield_801 : Int) (yield_802 : List (T2).T) (yield_803 : List ((I).T × (I).T)) (yield_120 : Int) (z10 : Int) : Option R_u20 :=
 f_u20_1 k yield_800 yield_801 yield_802 yield_803 yield_120 z10 k yield_802 ((↑yield_802.length : Int)) 0 yield_120
def v_u20 (k : Nat) (yield_800 : Int) (yield_801 : Int) (yield_802 : List (T2).T) (yield_803 : List ((I).T × (I).T)) (yield_120 : Int) (z10 : Int) : R_u20 := (f_u20 k yield_800 yield_801 yield_802 yield_803 yield_120 z10).getD 0
def K_u20 (k : Nat) : Calld := ⟨fun g xs => match g with
 | 1000000 => match xs with
  | [_] => some [false]
  | _ => none
 | _ => none, fun g xs bs => match g with
 | 1000000 => match xs, bs with
  | [.agg qx0], [.loop _ _ _ qs, .var 52 [.ptr 2 0 0], .var 71 [.r (.v (.int .i64 s800)), .r (.v (.int .i64 s801)), .r (.ro ts802_ qs802), .own 3 0], .map false ks803_ ts803_ qs803, .var 3 [.r (.v (.int .i64 s120))]] => (decS [] T2 qx0).bind fun x0 => (castL ts802_ T2 qs802).bind fun s802 => (castM ks803_ ts803_ I I qs803).bind fun s803 => some (.one (res_u1 (v_u1 k s800 s801 s802 s803 s120 x0), bo_u1 s800 s801 s802 s803 s120 x0 (v_u1 k s800 s801 s802 s803 s120 x0)))
  | _, _ => none
 | _ => none⟩
theorem ev_u20 (k : Nat) (yield_800 : Int) (yield_801 : Int) (yield_802 : List (T2).T) (yield_803 : List ((I).T × (I).T)) (yield_120 : Int) (z10 : Int) : ∀ j, (∀ (y0 : List (T2).T) (y1 : Int) (y2 : Int) (y3 : Int) (r : R_u20), f_u20_1 k yield_800 yield_801 yield_802 yield_803 yield_120 z10 j y0 y1 y2 y3 = some r → Ev Try.prog Try.f40 7 (placeAt Try.f40 1) (st_u20_1 yield_800 yield_801 yield_802 yield_803 yield_120 z10 y0 y1 y2 y3) (res_u20 r) (bo_u20 yield_800 yield_801 yield_802 yield_803 yield_120 z10 r))
 | 0 => by
  intros; rename_i h; simp [f_u20_1] at h
 | j + 1 => by
  have ih := ev_u20 k yield_800 yield_801 yield_802 yield_803 yield_120 z10 j
  ·intro y0 y1 y2 y3 r h
   rw [f_u20_1] at h
   refine Ev.tree hm (R := Rt) (K := (K_u20 k)) (l := []) (C := [(1, [.autoB [0, 2, 9, 10, 11] false []])]) (E := [.autoB [] true []]) (n := 1000) (T := .test ((decide (y2 < y1))) (.need [0 ≤ y2, y2 < (↑y0.length : Int)] (.test (((y0.getD y2.toNat T2.dflt).2.1 == z10)) (.need [((y0.getD y2.toNat T2.dflt).2.1 == z10) = true, YC Try.prog (args_u1 yield_800 yield_801 yield_802 yield_803 y3 (y0.getD y2.toNat T2.dflt)) (bin_u1 yield_800 yield_801 yield_802 yield_803 y3 (y0.getD y2.toNat T2.dflt)) (res_u1 (v_u1 k yield_800 yield_801 yield_802 yield_803 y3 (y0.getD y2.toNat T2.dflt))) (bo_u1 yield_800 yield_801 yield_802 yield_803 y3 (y0.getD y2.toNat T2.dflt) (v_u1 k yield_800 yield_801 yield_802 yield_803 y3 (y0.getD y2.toNat T2.dflt)))] (.test (false) (.leaf (.tup []) [(0, .loop .ready none (rcAt Try.f14 7 [46]) (mkS 52 [(8, .ptr 1 0 0), (12, .ptr 4 0 0)])), (0, .var 52 [.ptr 2 0 0]), (0, .var 71 [.r (.v (.int .i64 yield_800)), .r (.v (.int .i64 yield_801)), .r (.ro T2 yield_802), .own 3 0]), (0, .map false I I yield_803), (0, .var 3 [.r (.v (.int .i64 ((v_u1 k yield_800 yield_801 yield_802 yield_803 y3 (y0.getD y2.toNat T2.dflt)))))]), (0, .var 52 [.ptr 2 0 0]), (0, .var 3 [.r (.v (.int .i64 z10))])]) (.cut 1 (placeAt Try.f40 1) (st_u20_1 yield_800 yield_801 yield_802 yield_803 yield_120 z10 y0 y1 ((i64.wrap (y2 + 1))) ((v_u1 k yield_800 yield_801 yield_802 yield_803 y3 (y0.getD y2.toNat T2.dflt))))))) (.need [((y0.getD y2.toNat T2.dflt).2.1 == z10) = false] (.test (false) (.leaf (.tup []) [(0, .loop .ready none (rcAt Try.f14 7 [46]) (mkS 52 [(8, .ptr 1 0 0), (12, .ptr 4 0 0)])), (0, .var 52 [.ptr 2 0 0]), (0, .var 71 [.r (.v (.int .i64 yield_800)), .r (.v (.int .i64 yield_801)), .r (.ro T2 yield_802), .own 3 0]), (0, .map false I I yield_803), (0, .var 3 [.r (.v (.int .i64 y3))]), (0, .var 52 [.ptr 2 0 0]), (0, .var 3 [.r (.v (.int .i64 z10))])]) (.cut 1 (placeAt Try.f40 1) (st_u20_1 yield_800 yield_801 yield_802 yield_803 yield_120 z10 y0 y1 ((i64.wrap (y2 + 1))) y3)))))) (.leaf (res_u20 y3) (bo_u20 yield_800 yield_801 yield_802 yield_803 yield_120 z10 y3))) (by kernel_rfl) ?_
   refine ⟨fun c => ?_, fun c => ?_⟩
   ·rw [cond_t (show ((decide (y2 < y1))) = true from c)] at h
    by_cases q : (0 ≤ y2) ∧ (y2 < (↑y0.length : Int))
    ·rw [if_pos q] at h
     refine ⟨(conjC q.1 (conjC q.2 conj0)), ?_⟩
     refine ⟨fun c => ?_, fun c => ?_⟩
     ·rw [cond_t (show (((y0.getD y2.toNat T2.dflt).2.1 == z10)) = true from c)] at h
      by_cases q : (((y0.getD y2.toNat T2.dflt).2.1 == z10) = true) ∧ ((f_u1 k yield_800 yield_801 yield_802 yield_803 y3 (y0.getD y2.toNat T2.dflt)).isSome = true)
      ·rw [if_pos q] at h
       refine ⟨(conjC q.1 (conjC (cc_u1 k yield_800 yield_801 yield_802 yield_803 y3 (y0.getD y2.toNat T2.dflt) q.2) conj0)), ?_⟩
       refine ⟨fun c => ?_, fun c => ?_⟩
       ·cases c
       exact ih y0 y1 ((i64.wrap (y2 + 1))) ((v_u1 k yield_800 yield_801 yield_802 yield_803 y3 (y0.getD y2.toNat T2.dflt))) _ h
      ·rw [if_neg q] at h; cases h
     ·rw [cond_f (show (((y0.getD y2.toNat T2.dflt).2.1 == z10)) = false from c)] at h
      by_cases q : (((y0.getD y2.toNat T2.dflt).2.1 == z10) = false)
      ·rw [if_pos q] at h
       refine ⟨(conjC q conj0), ?_⟩
       refine ⟨fun c => ?_, fun c => ?_⟩
       ·cases c
       exact ih y0 y1 ((i64.wrap (y2 + 1))) y3 _ h
      ·rw [if_neg q] at h; cases h
    ·rw [if_neg q] at h; cases h
   ·rw [cond_f (show ((decide (y2 < y1))) = false from c)] at h
    cases h; exact ⟨rfl, rfl⟩
theorem of_u20 (k : Nat) (yield_800 : Int) (yield_801 : Int) (yield_802 : List (T2).T) (yield_803 : List ((I).T × (I).T)) (yield_120 : Int) (z10 : Int) (r : R_u20) (h : f_u20 k yield_800 yield_801 yield_802 yield_803 yield_120 z10 = some r) : CC Try.prog 40 (args_u20 yield_800 yield_801 yield_802 yield_803 yield_120 z10) (bin_u20 yield_800 yield_801 yield_802 yield_803 yield_120 z10) (res_u20 r) (bo_u20 yield_800 yield_801 yield_802 yield_803 yield_120 z10 r) := by
 refine CC.of (fn := Try.f40) (by kernel_rfl) (by kernel_rfl) (by kernel_rfl) (by kernel_rfl) ?_
 unfold f_u20 at h
 refine Ev.tree hm (R := Rt) (K := (K_u20 k)) (l := []) (C := [(1, [.autoB [0, 2, 9, 10, 11] false []])]) (E := [.autoB [] true []]) (n := 1000) (T := .cut 1 (placeAt Try.f40 1) (st_u20_1 yield_800 yield_801 yield_802 yield_803 yield_120 z10 yield_802 ((↑yield_802.length : Int)) 0 yield_120)) (by kernel_rfl) ?_
 exact (ev_u20 k yield_800 yield_801 yield_802 yield_803 yield_120 z10 k) yield_802 ((↑yield_802.length : Int)) 0 yield_120 _ h
theorem cc_u20 (k : Nat) (yield_800 : Int) (yield_801 : Int) (yield_802 : List (T2).T) (yield_803 : List ((I).T × (I).T)) (yield_120 : Int) (z10 : Int) (h : (f_u20 k yield_800 yield_801 yield_802 yield_803 yield_120 z10).isSome = true) : CC Try.prog 40 (args_u20 yield_800 yield_801 yield_802 yield_803 yield_120 z10) (bin_u20 yield_800 yield_801 yield_802 yield_803 yield_120 z10) (res_u20 (v_u20 k yield_800 yield_801 yield_802 yield_803 yield_120 z10)) (bo_u20 yield_800 yield_801 yield_802 yield_803 yield_120 z10 (v_u20 k yield_800 yield_801 yield_802 yield_803 yield_120 z10)) := by
 cases e : f_u20 k yield_800 yield_801 yield_802 yield_803 yield_120 z10 with
 | none => rw [e] at h; cases h
 | some r => rw [show v_u20 k yield_800 yield_801 yield_802 yield_803 yield_120 z10 = r by simp [v_u20, e]]; exact of_u20 k yield_800 yield_801 yield_802 yield_803 yield_120 z10 r e

end
end Go.AM
namespace Go.AM
open Go Go.Proofs Go.IntKind
set_option linter.unusedVariables false
noncomputable section
abbrev R_u8 : Type := Int × Int
def res_u8 (r : R_u8) : AV := .tup [.r (.v (.int .i64 r.1)), .r (.v (.int .i64 r.2))]
def bo_u8 (l_ : List (T2).T) (web_ : T5.T) (id_ : Int) (r : R_u8) : List (Nat × Blk) := []
def args_u8 (l_ : List (T2).T) (web_ : T5.T) (id_ : Int) : List AV := [.r (.ro T2 l_), .agg (rvs (enc T5 web_)), .r (.v (.int .i64 id_))]
def bin_u8 (l_ : List (T2).T) (web_ : T5.T) (id_ : Int) : List Blk := []
def f_u8 (k : Nat) (l_ : List (T2).T) (web_ : T5.T) (id_ : Int) : Option R_u8 :=
 bif (Sum.isLeft (v_u13 k l_ web_ id_)) then
 if ((f_u13 k l_ web_ id_).isSome = true) then
 bif (vA_u13 k l_ web_ id_ != (0 : Int)) then
 some ((0, vA_u13 k l_ web_ id_))
 else
 none
 else none
 else
 if ((f_u13 k l_ web_ id_).isSome = true) then
 bif ((vB_u13 k l_ web_ id_).1 != (0 : Int)) then
 some ((0, (vB_u13 k l_ web_ id_).1))
 else
 if ((f_u26 k (vB_u13 k l_ web_ id_).2.1 (vB_u13 k l_ web_ id_).2.2.1 (vB_u13 k l_ web_ id_).2.2.2.1 (vB_u13 k l_ web_ id_).2.2.2.2 id_).isSome = true) then
 if ((f_u18 k (vB_u13 k l_ web_ id_).2.1 (vB_u13 k l_ web_ id_).2.2.1 (vB_u13 k l_ web_ id_).2.2.2.1 (vB_u13 k l_ web_ id_).2.2.2.2 id_).isSome = true) then
 if ((f_u20 k (vB_u13 k l_ web_ id_).2.1 (vB_u13 k l_ web_ id_).2.2.1 (vB_u13 k l_ web_ id_).2.2.2.1 (vB_u13 k l_ web_ id_).2.2.2.2 (i64.wrap ((v_u26 k (vB_u13 k l_ web_ id_).2.1 (vB_u13 k l_ web_ id_).2.2.1 (vB_u13 k l_ web_ id_).2.2.2.1 (vB_u13 k l_ web_ id_).2.2.2.2 id_).1 * (v_u26 k (vB_u13 k l_ web_ id_).2.1 (vB_u13 k l_ web_ id_).2.2.1 (vB_u13 k l_ web_ id_).2.2.2.1 (vB_u13 k l_ web_ id_).2.2.2.2 id_).2)) (v_u18 k (vB_u13 k l_ web_ id_).2.1 (vB_u13 k l_ web_ id_).2.2.1 (vB_u13 k l_ web_ id_).2.2.2.1 (vB_u13 k l_ web_ id_).2.2.2.2 id_)).isSome = true) then
 some ((v_u20 k (vB_u13 k l_ web_ id_).2.1 (vB_u13 k l_ web_ id_).2.2.1 (vB_u13 k l_ web_ id_).2.2.2.1 (vB_u13 k l_ web_ id_).2.2.2.2 (i64.wrap ((v_u26 k (vB_u13 k l_ web_ id_).2.1 (vB_u13 k l_ web_ id_).2.2.1 (vB_u13 k l_ web_ id_).2.2.2.1 (vB_u13 k l_ web_ id_).2.2.2.2 id_).1 * (v_u26 k (vB_u13 k l_ web_ id_).2.1 (vB_u13 k l_ web_ id_).2.2.1 (vB_u13 k l_ web_ id_).2.2.2.1 (vB_u13 k l_ web_ id_).2.2.2.2 id_).2)) (v_u18 k (vB_u13 k l_ web_ id_).2.1 (vB_u13 k l_ web_ id_).2.2.1 (vB_u13 k l_ web_ id_).2.2.2.1 (vB_u13 k l_ web_ id_).2.2.2.2 id_), 0))
 else none
 else none
 else none
 else none
def v_u8 (k : Nat) (l_ : List (T2).T) (web_ : T5.T) (id_ : Int) : R_u8 := (f_u8 k l_ web_ id_).getD (0, 0)
def K_u8 (k : Nat) : Calld := ⟨fun g xs => match g with
 | 28 => match xs with
  | [.ptr _ _ _, _] => some [true, false]
  | _ => none
 | 19 => match xs with
  | [_, _, _] => some [false, false, false]
  | _ => none
 | 29 => match xs with
  | [.ptr _ _ _, _] => some [true, false]
  | _ => none
 | 40 => match xs with
  | [.own _ _, .ptr _ _ _, .ptr _ _ _] => some [true, true, true]
  | _ => none
 | _ => none, fun g xs bs => match g with
 | 28 => match xs, bs with
  | [.ptr 0 0 0, .r (.v (.int .i64 id_))], [.var 71 [.r (.v (.int .i64 g_0)), .r (.v (.int .i64 g_1)), .r (.ro tg_2_ qg_2), .own 1 0], .map false kg_3_ tg_3_ qg_3] => (castL tg_2_ T2 qg_2).bind fun g_2 => (castM kg_3_ tg_3_ I I qg_3).bind fun g_3 => some (.one (res_u26 (v_u26 k g_0 g_1 g_2 g_3 id_), bo_u26 g_0 g_1 g_2 g_3 id_ (v_u26 k g_0 g_1 g_2 g_3 id_)))
  | _, _ => none
 | 19 => match xs, bs with
  | [.r (.ro tl__ ql_), .agg qweb_, .r (.v (.int .i64 id_))], [] => (castL tl__ T2 ql_).bind fun l_ => (decS [] T5 qweb_).bind fun web_ => some (.two (v_u13 k l_ web_ id_).isLeft (resA_u13 (vA_u13 k l_ web_ id_), boA_u13 l_ web_ id_ (vA_u13 k l_ web_ id_)) (resB_u13 (vB_u13 k l_ web_ id_), boB_u13 l_ web_ id_ (vB_u13 k l_ web_ id_)))
  | _, _ => none
 | 29 => match xs, bs with
  | [.ptr 0 0 0, .r (.v (.int .i64 id_))], [.var 71 [.r (.v (.int .i64 g_0)), .r (.v (.int .i64 g_1)), .r (.ro tg_2_ qg_2), .own 1 0], .map false kg_3_ tg_3_ qg_3] => (castL tg_2_ T2 qg_2).bind fun g_2 => (castM kg_3_ tg_3_ I I qg_3).bind fun g_3 => some (.one (res_u18 (v_u18 k g_0 g_1 g_2 g_3 id_), bo_u18 g_0 g_1 g_2 g_3 id_ (v_u18 k g_0 g_1 g_2 g_3 id_)))
  | _, _ => none
 | 40 => match xs, bs with
  | [.own 0 0, .ptr 5 0 0, .ptr 6 0 0], [.loop _ _ _ qyield_, .var 52 [.ptr 2 0 0], .var 71 [.r (.v (.int .i64 yield_800)), .r (.v (.int .i64 yield_801)), .r (.ro tyield_802_ qyield_802), .own 3 0], .map false kyield_803_ tyield_803_ qyield_803, .var 3 [.r (.v (.int .i64 yield_120))], .var 52 [.ptr 2 0 0], .var 3 [.r (.v (.int .i64 z10))]] => (castL tyield_802_ T2 qyield_802).bind fun yield_802 => (castM kyield_803_ tyield_803_ I I qyield_803).bind fun yield_803 => some (.one (res_u20 (v_u20 k yield_800 yield_801 yield_802 yield_803 yield_120 z10), bo_u20 yield_800 yield_801 yield_802 yield_803 yield_120 z10 (v_u20 k yield_800 yield_801 yield_802 yield_803 yield_120 z10)))
  | _, _ => none
 | _ => none⟩
theorem of_u8 (k : Nat) (l_ : List (T2).T) (web_ : T5.T) (id_ : Int) (r : R_u8) (h : f_u8 k l_ web_ id_ = some r) : CC Try.prog 14 (args_u8 l_ web_ id_) (bin_u8 l_ web_ id_) (res_u8 r) (bo_u8 l_ web_ id_ r) := by
 refine CC.of (fn := Try.f14) (by kernel_rfl) (by kernel_rfl) (by kernel_rfl) (by kernel_rfl) ?_
 unfold f_u8 at h
 refine Ev.tree hm (R := Rt) (K := (K_u8 k)) (l := []) (C := []) (E := [.autoB [6, 7] true []]) (n := 1000) (T := .test ((Sum.isLeft (v_u13 k l_ web_ id_))) (.need [CC Try.prog 19 (args_u13 l_ web_ id_) (bin_u13 l_ web_ id_) (resA_u13 (vA_u13 k l_ web_ id_)) (boA_u13 l_ web_ id_ (vA_u13 k l_ web_ id_))] (.test ((vA_u13 k l_ web_ id_ != (0 : Int))) (.leaf (res_u8 ((0, vA_u13 k l_ web_ id_))) (bo_u8 l_ web_ id_ ((0, vA_u13 k l_ web_ id_)))) (.stuck 2002))) (.need [CC Try.prog 19 (args_u13 l_ web_ id_) (bin_u13 l_ web_ id_) (resB_u13 (vB_u13 k l_ web_ id_)) (boB_u13 l_ web_ id_ (vB_u13 k l_ web_ id_))] (.test (((vB_u13 k l_ web_ id_).1 != (0 : Int))) (.leaf (res_u8 ((0, (vB_u13 k l_ web_ id_).1))) (bo_u8 l_ web_ id_ ((0, (vB_u13 k l_ web_ id_).1)))) (.need [CC Try.prog 28 (args_u26 (vB_u13 k l_ web_ id_).2.1 (vB_u13 k l_ web_ id_).2.2.1 (vB_u13 k l_ web_ id_).2.2.2.1 (vB_u13 k l_ web_ id_).2.2.2.2 id_) (bin_u26 (vB_u13 k l_ web_ id_).2.1 (vB_u13 k l_ web_ id_).2.2.1 (vB_u13 k l_ web_ id_).2.2.2.1 (vB_u13 k l_ web_ id_).2.2.2.2 id_) (res_u26 (v_u26 k (vB_u13 k l_ web_ id_).2.1 (vB_u13 k l_ web_ id_).2.2.1 (vB_u13 k l_ web_ id_).2.2.2.1 (vB_u13 k l_ web_ id_).2.2.2.2 id_)) (bo_u26 (vB_u13 k l_ web_ id_).2.1 (vB_u13 k l_ web_ id_).2.2.1 (vB_u13 k l_ web_ id_).2.2.2.1 (vB_u13 k l_ web_ id_).2.2.2.2 id_ (v_u26 k (vB_u13 k l_ web_ id_).2.1 (vB_u13 k l_ web_ id_).2.2.1 (vB_u13 k l_ web_ id_).2.2.2.1 (vB_u13 k l_ web_ id_).2.2.2.2 id_))] (.need [CC Try.prog 29 (args_u18 (vB_u13 k l_ web_ id_).2.1 (vB_u13 k l_ web_ id_).2.2.1 (vB_u13 k l_ web_ id_).2.2.2.1 (vB_u13 k l_ web_ id_).2.2.2.2 id_) (bin_u18 (vB_u13 k l_ web_ id_).2.1 (vB_u13 k l_ web_ id_).2.2.1 (vB_u13 k l_ web_ id_).2.2.2.1 (vB_u13 k l_ web_ id_).2.2.2.2 id_) (res_u18 (v_u18 k (vB_u13 k l_ web_ id_).2.1 (vB_u13 k l_ web_ id_).2.2.1 (vB_u13 k l_ web_ id_).2.2.2.1 (vB_u13 k l_ web_ id_).2.2.2.2 id_)) (bo_u18 (vB_u13 k l_ web_ id_).2.1 (vB_u13 k l_ web_ id_).2.2.1 (vB_u13 k l_ web_ id_).2.2.2.1 (vB_u13 k l_ web_ id_).2.2.2.2 id_ (v_u18 k (vB_u13 k l_ web_ id_).2.1 (vB_u13 k l_ web_ id_).2.2.1 (vB_u13 k l_ web_ id_).2.2.2.1 (vB_u13 k l_ web_ id_).2.2.2.2 id_))] (.need [CC Try.prog 40 (args_u20 (vB_u13 k l_ web_ id_).2.1 (vB_u13 k l_ web_ id_).2.2.1 (vB_u13 k l_ web_ id_).2.2.2.1 (vB_u13 k l_ web_ id_).2.2.2.2 (i64.wrap ((v_u26 k (vB_u13 k l_ web_ id_).2.1 (vB_u13 k l_ web_ id_).2.2.1 (vB_u13 k l_ web_ id_).2.2.2.1 (vB_u13 k l_ web_ id_).2.2.2.2 id_).1 * (v_u26 k (vB_u13 k l_ web_ id_).2.1 (vB_u13 k l_ web_ id_).2.2.1 (vB_u13 k l_ web_ id_).2.2.2.1 (vB_u13 k l_ web_ id_).2.2.2.2 id_).2)) (v_u18 k (vB_u13 k l_ web_ id_).2.1 (vB_u13 k l_ web_ id_).2.2.1 (vB_u13 k l_ web_ id_).2.2.2.1 (vB_u13 k l_ web_ id_).2.2.2.2 id_)) (bin_u20 (vB_u13 k l_ web_ id_).2.1 (vB_u13 k l_ web_ id_).2.2.1 (vB_u13 k l_ web_ id_).2.2.2.1 (vB_u13 k l_ web_ id_).2.2.2.2 (i64.wrap ((v_u26 k (vB_u13 k l_ web_ id_).2.1 (vB_u13 k l_ web_ id_).2.2.1 (vB_u13 k l_ web_ id_).2.2.2.1 (vB_u13 k l_ web_ id_).2.2.2.2 id_).1 * (v_u26 k (vB_u13 k l_ web_ id_).2.1 (vB_u13 k l_ web_ id_).2.2.1 (vB_u13 k l_ web_ id_).2.2.2.1 (vB_u13 k l_ web_ id_).2.2.2.2 id_).2)) (v_u18 k (vB_u13 k l_ web_ id_).2.1 (vB_u13 k l_ web_ id_).2.2.1 (vB_u13 k l_ web_ id_).2.2.2.1 (vB_u13 k l_ web_ id_).2.2.2.2 id_)) (res_u20 (v_u20 k (vB_u13 k l_ web_ id_).2.1 (vB_u13 k l_ web_ id_).2.2.1 (vB_u13 k l_ web_ id_).2.2.2.1 (vB_u13 k l_ web_ id_).2.2.2.2 (i64.wrap ((v_u26 k (vB_u13 k l_ web_ id_).2.1 (vB_u13 k l_ web_ id_).2.2.1 (vB_u13 k l_ web_ id_).2.2.2.1 (vB_u13 k l_ web_ id_).2.2.2.2 id_).1 * (v_u26 k (vB_u13 k l_ web_ id_).2.1 (vB_u13 k l_ web_ id_).2.2.1 (vB_u13 k l_ web_ id_).2.2.2.1 (vB_u13 k l_ web_ id_).2.2.2.2 id_).2)) (v_u18 k (vB_u13 k l_ web_ id_).2.1 (vB_u13 k l_ web_ id_).2.2.1 (vB_u13 k l_ web_ id_).2.2.2.1 (vB_u13 k l_ web_ id_).2.2.2.2 id_))) (bo_u20 (vB_u13 k l_ web_ id_).2.1 (vB_u13 k l_ web_ id_).2.2.1 (vB_u13 k l_ web_ id_).2.2.2.1 (vB_u13 k l_ web_ id_).2.2.2.2 (i64.wrap ((v_u26 k (vB_u13 k l_ web_ id_).2.1 (vB_u13 k l_ web_ id_).2.2.1 (vB_u13 k l_ web_ id_).2.2.2.1 (vB_u13 k l_ web_ id_).2.2.2.2 id_).1 * (v_u26 k (vB_u13 k l_ web_ id_).2.1 (vB_u13 k l_ web_ id_).2.2.1 (vB_u13 k l_ web_ id_).2.2.2.1 (vB_u13 k l_ web_ id_).2.2.2.2 id_).2)) (v_u18 k (vB_u13 k l_ web_ id_).2.1 (vB_u13 k l_ web_ id_).2.2.1 (vB_u13 k l_ web_ id_).2.2.2.1 (vB_u13 k l_ web_ id_).2.2.2.2 id_) (v_u20 k (vB_u13 k l_ web_ id_).2.1 (vB_u13 k l_ web_ id_).2.2.1 (vB_u13 k l_ web_ id_).2.2.2.1 (vB_u13 k l_ web_ id_).2.2.2.2 (i64.wrap ((v_u26 k (vB_u13 k l_ web_ id_).2.1 (vB_u13 k l_ web_ id_).2.2.1 (vB_u13 k l_ web_ id_).2.2.2.1 (vB_u13 k l_ web_ id_).2.2.2.2 id_).1 * (v_u26 k (vB_u13 k l_ web_ id_).2.1 (vB_u13 k l_ web_ id_).2.2.1 (vB_u13 k l_ web_ id_).2.2.2.1 (vB_u13 k l_ web_ id_).2.2.2.2 id_).2)) (v_u18 k (vB_u13 k l_ web_ id_).2.1 (vB_u13 k l_ web_ id_).2.2.1 (vB_u13 k l_ web_ id_).2.2.2.1 (vB_u13 k l_ web_ id_).2.2.2.2 id_)))] (.leaf (res_u8 ((v_u20 k (vB_u13 k l_ web_ id_).2.1 (vB_u13 k l_ web_ id_).2.2.1 (vB_u13 k l_ web_ id_).2.2.2.1 (vB_u13 k l_ web_ id_).2.2.2.2 (i64.wrap ((v_u26 k (vB_u13 k l_ web_ id_).2.1 (vB_u13 k l_ web_ id_).2.2.1 (vB_u13 k l_ web_ id_).2.2.2.1 (vB_u13 k l_ web_ id_).2.2.2.2 id_).1 * (v_u26 k (vB_u13 k l_ web_ id_).2.1 (vB_u13 k l_ web_ id_).2.2.1 (vB_u13 k l_ web_ id_).2.2.2.1 (vB_u13 k l_ web_ id_).2.2.2.2 id_).2)) (v_u18 k (vB_u13 k l_ web_ id_).2.1 (vB_u13 k l_ web_ id_).2.2.1 (vB_u13 k l_ web_ id_).2.2.2.1 (vB_u13 k l_ web_ id_).2.2.2.2 id_), 0))) (bo_u8 l_ web_ id_ ((v_u20 k (vB_u13 k l_ web_ id_).2.1 (vB_u13 k l_ web_ id_).2.2.1 (vB_u13 k l_ web_ id_).2.2.2.1 (vB_u13 k l_ web_ id_).2.2.2.2 (i64.wrap ((v_u26 k (vB_u13 k l_ web_ id_).2.1 (vB_u13 k l_ web_ id_).2.2.1 (vB_u13 k l_ web_ id_).2.2.2.1 (vB_u13 k l_ web_ id_).2.2.2.2 id_).1 * (v_u26 k (vB_u13 k l_ web_ id_).2.1 (vB_u13 k l_ web_ id_).2.2.1 (vB_u13 k l_ web_ id_).2.2.2.1 (vB_u13 k l_ web_ id_).2.2.2.2 id_).2)) (v_u18 k (vB_u13 k l_ web_ id_).2.1 (vB_u13 k l_ web_ id_).2.2.1 (vB_u13 k l_ web_ id_).2.2.2.1 (vB_u13 k l_ web_ id_).2.2.2.2 id_), 0)))))))))) (by kernel_rfl) ?_
 refine ⟨fun c => ?_, fun c => ?_⟩
 ·rw [cond_t (show ((Sum.isLeft (v_u13 k l_ web_ id_))) = true from c)] at h
  by_cases q : ((f_u13 k l_ web_ id_).isSome = true)
  ·rw [if_pos q] at h
   refine ⟨(conjC (ccA_u13 k l_ web_ id_ q (by assumption)) conj0), ?_⟩
   refine ⟨fun c => ?_, fun c => ?_⟩
   ·rw [cond_t (show ((vA_u13 k l_ web_ id_ != (0 : Int))) = true from c)] at h
    cases h; exact ⟨rfl, rfl⟩
   ·rw [cond_f (show ((vA_u13 k l_ web_ id_ != (0 : Int))) = false from c)] at h
    cases h
  ·rw [if_neg q] at h; cases h
 ·rw [cond_f (show ((Sum.isLeft (v_u13 k l_ web_ id_))) = false from c)] at h
  by_cases q : ((f_u13 k l_ web_ id_).isSome = true)
  ·rw [if_pos q] at h
   refine ⟨(conjC (ccB_u13 k l_ web_ id_ q (by assumption)) conj0), ?_⟩
   refine ⟨fun c => ?_, fun c => ?_⟩
   ·rw [cond_t (show (((vB_u13 k l_ web_ id_).1 != (0 : Int))) = true from c)] at h
    cases h; exact ⟨rfl, rfl⟩
   ·rw [cond_f (show (((vB_u13 k l_ web_ id_).1 != (0 : Int))) = false from c)] at h
    by_cases q : ((f_u26 k (vB_u13 k l_ web_ id_).2.1 (vB_u13 k l_ web_ id_).2.2.1 (vB_u13 k l_ web_ id_).2.2.2.1 (vB_u13 k l_ web_ id_).2.2.2.2 id_).isSome = true)
    ·rw [if_pos q] at h
     refine ⟨(conjC (cc_u26 k (vB_u13 k l_ web_ id_).2.1 (vB_u13 k l_ web_ id_).2.2.1 (vB_u13 k l_ web_ id_).2.2.2.1 (vB_u13 k l_ web_ id_).2.2.2.2 id_ q) conj0), ?_⟩
     by_cases q : ((f_u18 k (vB_u13 k l_ web_ id_).2.1 (vB_u13 k l_ web_ id_).2.2.1 (vB_u13 k l_ web_ id_).2.2.2.1 (vB_u13 k l_ web_ id_).2.2.2.2 id_).isSome = true)
     ·rw [if_pos q] at h
      refine ⟨(conjC (cc_u18 k (vB_u13 k l_ web_ id_).2.1 (vB_u13 k l_ web_ id_).2.2.1 (vB_u13 k l_ web_ id_).2.2.2.1 (vB_u13 k l_ web_ id_).2.2.2.2 id_ q) conj0), ?_⟩
      by_cases q : ((f_u20 k (vB_u13 k l_ web_ id_).2.1 (vB_u13 k l_ web_ id_).2.2.1 (vB_u13 k l_ web_ id_).2.2.2.1 (vB_u13 k l_ web_ id_).2.2.2.2 (i64.wrap ((v_u26 k (vB_u13 k l_ web_ id_).2.1 (vB_u13 k l_ web_ id_).2.2.1 (vB_u13 k l_ web_ id_).2.2.2.1 (vB_u13 k l_ web_ id_).2.2.2.2 id_).1 * (v_u26 k (vB_u13 k l_ web_ id_).2.1 (vB_u13 k l_ web_ id_).2.2.1 (vB_u13 k l_ web_ id_).2.2.2.1 (vB_u13 k l_ web_ id_).2.2.2.2 id_).2)) (v_u18 k (vB_u13 k l_ web_ id_).2.1 (vB_u13 k l_ web_ id_).2.2.1 (vB_u13 k l_ web_ id_).2.2.2.1 (vB_u13 k l_ web_ id_).2.2.2.2 id_)).isSome = true)
      ·rw [if_pos q] at h
       refine ⟨(conjC (cc_u20 k (vB_u13 k l_ web_ id_).2.1 (vB_u13 k l_ web_ id_).2.2.1 (vB_u13 k l_ web_ id_).2.2.2.1 (vB_u13 k l_ web_ id_).2.2.2.2 (i64.wrap ((v_u26 k (vB_u13 k l_ web_ id_).2.1 (vB_u13 k l_ web_ id_).2.2.1 (vB_u13 k l_ web_ id_).2.2.2.1 (vB_u13 k l_ web_ id_).2.2.2.2 id_).1 * (v_u26 k (vB_u13 k l_ web_ id_).2.1 (vB_u13 k l_ web_ id_).2.2.1 (vB_u13 k l_ web_ id_).2.2.2.1 (vB_u13 k l_ web_ id_).2.2.2.2 id_).2)) (v_u18 k (vB_u13 k l_ web_ id_).2.1 (vB_u13 k l_ web_ id_).2.2.1 (vB_u13 k l_ web_ id_).2.2.2.1 (vB_u13 k l_ web_ id_).2.2.2.2 id_) q) conj0), ?_⟩
       cases h; exact ⟨rfl, rfl⟩
      ·rw [if_neg q] at h; cases h
     ·rw [if_neg q] at h; cases h
    ·rw [if_neg q] at h; cases h
  ·rw [if_neg q] at h; cases h
theorem cc_u8 (k : Nat) (l_ : List (T2).T) (web_ : T5.T) (id_ : Int) (h : (f_u8 k l_ web_ id_).isSome = true) : CC Try.prog 14 (args_u8 l_ web_ id_) (bin_u8 l_ web_ id_) (res_u8 (v_u8 k l_ web_ id_)) (bo_u8 l_ web_ id_ (v_u8 k l_ web_ id_)) := by
 cases e : f_u8 k l_ web_ id_ with
 | none => rw [e] at h; cases h
 | some r => rw [show v_u8 k l_ web_ id_ = r by simp [v_u8, e]]; exact of_u8 k l_ web_ id_ r e

end
end Go.AM
namespace Go.AM
open Go Go.Proofs Go.IntKind
set_option linter.unusedVariables false
noncomputable section
end
end Go.AM
namespace Go.AM
open Go Go.Proofs Go.IntKind
set_option linter.unusedVariables false
noncomputable section
end
end Go.AM
namespace Go.AM
open Go Go.Proofs Go.IntKind
set_option linter.unusedVariables false
noncomputable section
end
end Go.AM
namespace Go.AM
open Go Go.Proofs Go.IntKind
set_option linter.unusedVariables false
noncomputable section
end
end Go.AM
namespace Go.AM
open Go Go.Proofs

/-! ### cuts from the web -/
def baseS (W L : Int) : Ch := (0, W, false, if L > 0 then [(0, L, false)] else [])
/-- a roll's cut from the web, from that of its parent -/
def cutJ (r : Ro) (o : Ch × Int) : Ch × Int :=
  if o.2 ≠ 0 then ((0, 0, false, []), o.2)
  else if (comp r.2.2.2.2.2 o.1.2.2.2).2 ≠ 0 then ((0, 0, false, []), (comp r.2.2.2.2.2 o.1.2.2.2).2)
  else (((if o.1.2.2.1 = true then IntKind.i64.wrap (IntKind.i64.wrap (IntKind.i64.wrap (o.1.1 + o.1.2.1) - r.2.2.1) - r.2.2.2.1) else IntKind.i64.wrap (o.1.1 + r.2.2.1)),
    r.2.2.2.1, !(o.1.2.2.1 == r.2.2.2.2.1), (comp r.2.2.2.2.2 o.1.2.2.2).1), 0)
def cutS (l : List Ro) (W L : Int) : Nat → Int → Ch × Int
  | 0, _ => (baseS W L, 0)
  | n + 1, id => if id = 0 then (baseS W L, 0) else match look l id with
    | none => (baseS W L, 0)
    | some r => cutJ r (cutS l W L n r.2.1)
theorem Anc.cases {l : List Ro} {n : Nat} {id : Int} (h : Anc l n id) (h0 : id ≠ 0) : ∃ m r, n = m + 1 ∧ look l id = some r ∧ Anc l m r.2.1 := by
  cases h with
  | root => exact absurd rfl h0
  | step m _ r _ e a => exact ⟨m, r, rfl, e, a⟩

theorem fam_cut (W L : Int) (l : List Ro) (M : List (Int × Int)) (hM : RegOk M l) : ∀ (n : Nat) (id : Int) (k : Nat), Anc l n id → n + 1000 < k → f_u17 k W L l M id = some (cutS l W L n id) := by
  have hbase : ∀ k, f_u17 (k + 1) W L l M 0 = some (baseS W L, 0) := fun k => by
    rw [f_u17]
    show (bif decide (L > 0) then some (((0 : Int), (W, (false, [((0 : Int), L, false)]))), (0 : Int)) else some (((0 : Int), (W, (false, []))), (0 : Int))) = _
    unfold baseS
    by_cases h : L > 0
    · rw [decide_eq_true h, if_pos h]; rfl
    · rw [decide_eq_false h, if_neg h]; rfl
  intro n
  induction n with
  | zero =>
    intro id k ha hk
    obtain ⟨k, rfl⟩ : ∃ q, k = q + 1 := ⟨k - 1, by omega⟩
    by_cases h0 : id = 0
    · rw [h0, hbase]; rfl
    · obtain ⟨m, _, e, _⟩ := ha.cases h0
      cases e
  | succ n ih =>
    intro id k ha hk
    obtain ⟨k, rfl⟩ : ∃ q, k = q + 1 := ⟨k - 1, by omega⟩
    by_cases h0 : id = 0
    · rw [h0, hbase]
      unfold cutS
      rw [if_pos rfl]
    · obtain ⟨m, r, em, e, a⟩ := ha.cases h0
      cases em
      have hf := ih r.2.1 k a (by omega)
      obtain ⟨x, e1, e2, e3⟩ := (hM id).some e
      have hx : (x : Int) < (l.length : Int) := by omega
      rw [f_u17]
      unfold cutS w_u17
      rw [if_neg h0, beq_false_of_ne h0, cond_false, e, e1, Option.getD_some, if_pos ⟨by omega, hx⟩, Int.toNat_natCast, e3, hf, Option.isSome_some, if_pos rfl, Option.getD_some, iso_Compose_s k (by omega), iso_Compose_v k (by omega)]
      show _ = some (cutJ r (cutS l W L n r.2.1))
      generalize cutS l W L n r.2.1 = o
      unfold cutJ
      by_cases h1 : o.2 = 0
      · have g1 : ¬ (o.2 ≠ 0) := fun h => h h1
        rw [show (o.2 != 0) = false by simp [h1], cond_false, Option.isSome_some, if_pos rfl]
        rw [if_neg g1]
        generalize comp r.2.2.2.2.2 o.1.2.2.2 = c
        by_cases h2 : c.2 = 0
        · have g2 : ¬ (c.2 ≠ 0) := fun h => h h2
          rw [show (c.2 != 0) = false by simp [h2], cond_false, if_neg g2]
          cases h3 : o.1.2.2.1
          · rfl
          · rfl
        · rw [bne_iff_ne.2 h2, if_pos h2]; rfl
      · rw [bne_iff_ne.2 h1]
        rw [if_pos h1]; rfl
def cutFull (l : List Ro) (W L id : Int) : Ch × Int := if errS l W L id ≠ 0 then ((0, 0, false, []), errS l W L id) else cutS l W L 512 id
theorem fam_Cut_s (k : Nat) (hk : 300000 ≤ k) (l : List Ro) (web : Int × Int) (id : Int) : f_u5 k l web id = some (cutFull l web.1 web.2 id) := by
  obtain ⟨h1, h2⟩ := fam_find k hk l web id
  unfold f_u5 vA_u13 vB_u13 v_u13 cutFull
  by_cases h : errS l web.1 web.2 id = 0
  · obtain ⟨M, m1, m2, e⟩ := h2 h
    obtain ⟨reg, kn⟩ := errS_zero.1 h
    have hi : ¬ (errS l web.1 web.2 id ≠ 0) := fun h' => h' h
    have hc := fam_cut web.1 web.2 l M m1 512 id k (reg.anc kn) (by omega)
    rw [e, if_neg hi]
    show (if (f_u17 k web.1 web.2 l M id).isSome = true then some ((v_u17 k web.1 web.2 l M id).1, (v_u17 k web.1 web.2 l M id).2) else none) = _
    unfold v_u17
    rw [hc]; rfl
  · rw [h1 h, if_pos h]
    show (bif (errS l web.1 web.2 id != 0) then _ else _) = _
    rw [bne_iff_ne.2 h]; rfl
theorem fam_Cut_v (k : Nat) (hk : 300000 ≤ k) (l : List Ro) (web : Int × Int) (id : Int) : v_u5 k l web id = cutFull l web.1 web.2 id := by
  unfold v_u5; rw [fam_Cut_s k hk l web id]; rfl

/-! ### what is left of a roll -/
def restGo (id : Int) : List Ro → Int → Int
  | [], y => y
  | r :: t, y => restGo id t (if r.2.1 = id then IntKind.i64.wrap (y - IntKind.i64.wrap (r.2.2.2.1 * lenS r.2.2.2.2.2)) else y)
theorem fam_Rest_l (k : Nat) (hk : 2100 ≤ k) (W L : Int) (l : List Ro) (reg : Reg l W L) (M : List (Int × Int)) (hM : RegOk M l) (id z : Int) : ∀ (d i j : Nat) (y : Int), i + d = l.length → d < j →
    f_u20_1 k W L l M z id j l (l.length : Int) (i : Int) y = some (restGo id (l.drop i) y) := by
  intro d
  have hn := reg.num
  induction d with
  | zero =>
    intro i j y hi hj
    obtain ⟨j, rfl⟩ : ∃ q, j = q + 1 := ⟨j - 1, by omega⟩
    rw [f_u20_1, decide_eq_false (by omega : ¬ (i : Int) < (l.length : Int)), cond_false, List.drop_of_length_le (by omega)]; rfl
  | succ d ih =>
    intro i j y hi hj
    obtain ⟨j, rfl⟩ : ∃ q, j = q + 1 := ⟨j - 1, by omega⟩
    have hr : l.getD i T2.dflt ∈ l := getD_mem' _ _ _ (by omega)
    have ro := reg.ok.ro _ hr
    rw [f_u20_1, decide_eq_true (by omega : (i : Int) < (l.length : Int)), cond_true, if_pos ⟨by omega, by omega⟩, Int.toNat_natCast, wrapS i (by omega), drop_cons' l i T2.dflt (by omega), restGo, ih (i + 1) j _ (by omega) (by omega), ih (i + 1) j _ (by omega) (by omega)]
    generalize l.getD i T2.dflt = r at *
    have hp := ro.pos
    obtain ⟨a, b⟩ := fam_size k hk W L l M r.1 reg.wl hM (.inr ⟨r, ro.look⟩)
    have hs := size_some (W := W) (L := L) (by omega : r.1 ≠ 0) ro.look
    have hf : f_u1 k W L l M y r = some (IntKind.i64.wrap (y - IntKind.i64.wrap (r.2.2.2.1 * lenS r.2.2.2.2.2))) := by
      unfold f_u1; rw [a, b, hs]; rfl
    have hv : v_u1 k W L l M y r = IntKind.i64.wrap (y - IntKind.i64.wrap (r.2.2.2.1 * lenS r.2.2.2.2.2)) := by unfold v_u1; rw [hf]; rfl
    rw [hf, hv]
    by_cases h : r.2.1 = id
    · rw [show (r.2.1 == id) = true from beq_iff_eq.2 h, cond_true, if_pos ⟨rfl, rfl⟩, if_pos h]
    · rw [show (r.2.1 == id) = false from beq_false_of_ne h, cond_false, if_pos rfl, if_neg h]
def restE (l : List Ro) (W L id : Int) : Int × Int := if errS l W L id ≠ 0 then (0, errS l W L id) else (restGo id l (IntKind.i64.wrap ((sizeS l W L id).1 * (sizeS l W L id).2)), 0)
theorem fam_Rest_s (k : Nat) (hk : 300000 ≤ k) (l : List Ro) (web : Int × Int) (id : Int) : f_u8 k l web id = some (restE l web.1 web.2 id) := by
  obtain ⟨h1, h2⟩ := fam_find k hk l web id
  unfold f_u8 vA_u13 vB_u13 v_u13 restE
  by_cases h : errS l web.1 web.2 id = 0
  · obtain ⟨M, m1, m2, e⟩ := h2 h
    obtain ⟨reg, kn⟩ := errS_zero.1 h
    have hn := reg.num
    have hi : ¬ (errS l web.1 web.2 id ≠ 0) := fun h' => h' h
    obtain ⟨a, b⟩ := fam_size k (by omega) web.1 web.2 l M id m2 m1 kn
    rw [e, if_neg hi]
    show (if (f_u26 k web.1 web.2 l M id).isSome = true then (if (f_u18 k web.1 web.2 l M id).isSome = true then (if (f_u20 k web.1 web.2 l M (IntKind.i64.wrap ((v_u26 k web.1 web.2 l M id).1 * (v_u26 k web.1 web.2 l M id).2)) id).isSome = true then some (v_u20 k web.1 web.2 l M (IntKind.i64.wrap ((v_u26 k web.1 web.2 l M id).1 * (v_u26 k web.1 web.2 l M id).2)) id, (0 : Int)) else none) else none) else none) = _
    have hr := fam_Rest_l k (by omega) web.1 web.2 l reg M m1 id (IntKind.i64.wrap ((sizeS l web.1 web.2 id).1 * (sizeS l web.1 web.2 id).2)) l.length 0 k (IntKind.i64.wrap ((sizeS l web.1 web.2 id).1 * (sizeS l web.1 web.2 id).2)) (by omega) (by omega)
    unfold v_u20 f_u20
    rw [a, b, show f_u20_1 k web.1 web.2 l M (IntKind.i64.wrap ((sizeS l web.1 web.2 id).1 * (sizeS l web.1 web.2 id).2)) id k l (l.length : Int) 0 (IntKind.i64.wrap ((sizeS l web.1 web.2 id).1 * (sizeS l web.1 web.2 id).2)) = _ from hr]
    rfl
  · rw [h1 h, if_pos h]
    show (bif (errS l web.1 web.2 id != 0) then _ else _) = _
    rw [bne_iff_ne.2 h]; rfl
theorem fam_Rest_v (k : Nat) (hk : 300000 ≤ k) (l : List Ro) (web : Int × Int) (id : Int) : v_u8 k l web id = restE l web.1 web.2 id := by
  unfold v_u8; rw [fam_Rest_s k hk l web id]; rfl
end Go.AM
namespace Go.AM
open Go Go.IntKind

end Go.AM
namespace Go.AM
open Go Go.Proofs Go.IntKind
set_option linter.unusedVariables false
noncomputable section
end
end Go.AM
namespace Go.AM
open Go Go.Proofs Go.IntKind
set_option linter.unusedVariables false
noncomputable section
end
end Go.AM
namespace Go.AM
open Go Go.Proofs Go.IntKind
set_option linter.unusedVariables false
noncomputable section
end
end Go.AM
namespace Go.AM
open Go Go.Proofs Go.IntKind
set_option linter.unusedVariables false
noncomputable section
end
end Go.AM
namespace Go.AM
open Go Go.Proofs

structure PtB (p : Pt) : Prop where
  a0 : 0 ≤ p.2.1
  a1 : p.2.1 ≤ 12000
  b0 : 0 ≤ p.2.2
  b1 : p.2.2 ≤ 17179869184
end Go.AM
namespace Go.AM
open Go Go.Proofs Go.IntKind
set_option linter.unusedVariables false
noncomputable section
abbrev R_u52 : Type := T5.T
def res_u52 (r : R_u52) : AV := .agg (rvs (enc T5 r))
def bo_u52 (x_ : T3.T) (r : R_u52) : List (Nat × Blk) := []
def args_u52 (x_ : T3.T) : List AV := [.agg (rvs (enc T3 x_))]
def bin_u52 (x_ : T3.T) : List Blk := []
def f_u52 (k : Nat) (x_ : T3.T) : Option R_u52 :=
 some x_.2
def v_u52 (k : Nat) (x_ : T3.T) : R_u52 := (f_u52 k x_).getD (T5).dflt
def K_u52 (k : Nat) : Calld := ⟨fun g xs => match g with
 | _ => none, fun g xs bs => match g with
 | _ => none⟩
theorem of_u52 (k : Nat) (x_ : T3.T) (r : R_u52) (h : f_u52 k x_ = some r) : CC Try.prog 10 (args_u52 x_) (bin_u52 x_) (res_u52 r) (bo_u52 x_ r) := by
 refine CC.of (fn := Try.f10) (by kernel_rfl) (by kernel_rfl) (by kernel_rfl) (by kernel_rfl) ?_
 unfold f_u52 at h
 refine Ev.tree hm (R := Rt) (K := (K_u52 k)) (l := []) (C := []) (E := [.autoB [2] true []]) (n := 1000) (T := .leaf (res_u52 x_.2) (bo_u52 x_ x_.2)) (by kernel_rfl) ?_
 cases h; exact ⟨rfl, rfl⟩
theorem cc_u52 (k : Nat) (x_ : T3.T) (h : (f_u52 k x_).isSome = true) : CC Try.prog 10 (args_u52 x_) (bin_u52 x_) (res_u52 (v_u52 k x_)) (bo_u52 x_ (v_u52 k x_)) := by
 cases e : f_u52 k x_ with
 | none => rw [e] at h; cases h
 | some r => rw [show v_u52 k x_ = r by simp [v_u52, e]]; exact of_u52 k x_ r e

end
end Go.AM
namespace Go.AM
open Go Go.Proofs Go.IntKind
set_option linter.unusedVariables false
noncomputable section
abbrev R_u51 : Type := T3.T
def res_u51 (r : R_u51) : AV := .agg (rvs (enc T3 r))
def bo_u51  (r : R_u51) : List (Nat × Blk) := []
def args_u51  : List AV := []
def bin_u51  : List Blk := []
def f_u51 (k : Nat)  : Option R_u51 :=
 some (([(1, 0, 0, 10, true, [(99, 100, true)]), (2, 1, 2, 5, true, [(99, 50, true)])], (10, 100)))
def v_u51 (k : Nat)  : R_u51 := (f_u51 k ).getD (T3).dflt
def K_u51 (k : Nat) : Calld := ⟨fun g xs => match g with
 | _ => none, fun g xs bs => match g with
 | _ => none⟩
theorem of_u51 (k : Nat)  (r : R_u51) (h : f_u51 k  = some r) : CC Try.prog 18 (args_u51 ) (bin_u51 ) (res_u51 r) (bo_u51  r) := by
 refine CC.of (fn := Try.f18) (by kernel_rfl) (by kernel_rfl) (by kernel_rfl) (by kernel_rfl) ?_
 unfold f_u51 at h
 refine Ev.tree hm (R := Rt) (K := (K_u51 k)) (l := []) (C := []) (E := [.frz 0 true T3, .autoB [0] true []]) (n := 1000) (T := .leaf (res_u51 (([(1, 0, 0, 10, true, [(99, 100, true)]), (2, 1, 2, 5, true, [(99, 50, true)])], (10, 100)))) (bo_u51  (([(1, 0, 0, 10, true, [(99, 100, true)]), (2, 1, 2, 5, true, [(99, 50, true)])], (10, 100))))) (by kernel_rfl) ?_
 cases h; exact ⟨rfl, rfl⟩
theorem cc_u51 (k : Nat)  (h : (f_u51 k ).isSome = true) : CC Try.prog 18 (args_u51 ) (bin_u51 ) (res_u51 (v_u51 k )) (bo_u51  (v_u51 k )) := by
 cases e : f_u51 k  with
 | none => rw [e] at h; cases h
 | some r => rw [show v_u51 k  = r by simp [v_u51, e]]; exact of_u51 k  r e

end
end Go.AM
namespace Go.AM
open Go Go.Proofs Go.IntKind
set_option linter.unusedVariables false
noncomputable section
abbrev R_u49 : Type := Bool
def res_u49 (r : R_u49) : AV := .r (.v (.bool r))
def bo_u49  (r : R_u49) : List (Nat × Blk) := []
def args_u49  : List AV := []
def bin_u49  : List Blk := []
def f_u49 (k : Nat)  : Option R_u49 :=
 if ((f_u51 k ).isSome = true) then
 if ((f_u52 k (v_u51 k)).isSome = true) ∧ ((f_u9 k (v_u51 k).1 (v_u52 k (v_u51 k)) (2, 0, 0)).isSome = true) then
 if ((f_u52 k (v_u51 k)).isSome = true) ∧ ((f_u10 k (v_u51 k).1 (v_u52 k (v_u51 k)) (2, 0, 0)).isSome = true) then
 if ((f_u52 k (v_u51 k)).isSome = true) ∧ ((f_u5 k (v_u51 k).1 (v_u52 k (v_u51 k)) 2).isSome = true) then
 if ((f_u52 k (v_u51 k)).isSome = true) ∧ ((f_u8 k (v_u51 k).1 (v_u52 k (v_u51 k)) 1).isSome = true) then
 bif ((v_u9 k (v_u51 k).1 (v_u52 k (v_u51 k)) ((2 : Int), (0 : Int), (0 : Int))).2 != (0 : Int) || (v_u10 k (v_u51 k).1 (v_u52 k (v_u51 k)) ((2 : Int), (0 : Int), (0 : Int))).2 != (0 : Int) || (v_u5 k (v_u51 k).1 (v_u52 k (v_u51 k)) (2 : Int)).2 != (0 : Int) || (v_u8 k (v_u51 k).1 (v_u52 k (v_u51 k)) (1 : Int)).2 != (0 : Int)) then
 some false
 else
 bif (!eqT T4 (v_u9 k (v_u51 k).1 (v_u52 k (v_u51 k)) ((2 : Int), (0 : Int), (0 : Int))).1 ((1 : Int), (6 : Int), (99 : Int)) || (!eqT T4 (v_u10 k (v_u51 k).1 (v_u52 k (v_u51 k)) ((2 : Int), (0 : Int), (0 : Int))).1 ((0 : Int), (3 : Int), (0 : Int))) || (v_u8 k (v_u51 k).1 (v_u52 k (v_u51 k)) (1 : Int)).1 != (750 : Int)) then
 some false
 else
 if (((v_u5 k (v_u51 k).1 (v_u52 k (v_u51 k)) (2 : Int)).1.1 == (3 : Int) && (v_u5 k (v_u51 k).1 (v_u52 k (v_u51 k)) (2 : Int)).1.2.1 == (5 : Int) && (! (v_u5 k (v_u51 k).1 (v_u52 k (v_u51 k)) (2 : Int)).1.2.2.1) && (↑ (List.length (v_u5 k (v_u51 k).1 (v_u52 k (v_u51 k)) (2 : Int)).1.2.2.2) : Int) == (1 : Int)) = true → (0 : Int) ≤ (0 : Int)) ∧ (((v_u5 k (v_u51 k).1 (v_u52 k (v_u51 k)) (2 : Int)).1.1 == (3 : Int) && (v_u5 k (v_u51 k).1 (v_u52 k (v_u51 k)) (2 : Int)).1.2.1 == (5 : Int) && (! (v_u5 k (v_u51 k).1 (v_u52 k (v_u51 k)) (2 : Int)).1.2.2.1) && (↑ (List.length (v_u5 k (v_u51 k).1 (v_u52 k (v_u51 k)) (2 : Int)).1.2.2.2) : Int) == (1 : Int)) = true → (0 : Int) < (↑ (List.length (v_u5 k (v_u51 k).1 (v_u52 k (v_u51 k)) (2 : Int)).1.2.2.2) : Int)) then
 some ((v_u5 k (v_u51 k).1 (v_u52 k (v_u51 k)) 2).1.1 == 3 && (v_u5 k (v_u51 k).1 (v_u52 k (v_u51 k)) 2).1.2.1 == 5 && (! (v_u5 k (v_u51 k).1 (v_u52 k (v_u51 k)) 2).1.2.2.1) && (↑ (List.length (v_u5 k (v_u51 k).1 (v_u52 k (v_u51 k)) 2).1.2.2.2) : Int) == 1 && eqT T0 (List.getD (v_u5 k (v_u51 k).1 (v_u52 k (v_u51 k)) 2).1.2.2.2 (Int.toNat 0) T0.dflt) (0, 50, false))
 else none
 else none
 else none
 else none
 else none
 else none
def v_u49 (k : Nat)  : R_u49 := (f_u49 k ).getD false
def K_u49 (k : Nat) : Calld := ⟨fun g xs => match g with
 | 9 => match xs with
  | [_, _, _] => some [false, false, false]
  | _ => none
 | 10 => match xs with
  | [_] => some [false]
  | _ => none
 | 11 => match xs with
  | [_, _, _] => some [false, false, false]
  | _ => none
 | 13 => match xs with
  | [_, _, _] => some [false, false, false]
  | _ => none
 | 14 => match xs with
  | [_, _, _] => some [false, false, false]
  | _ => none
 | 18 => match xs with
  | [] => some []
  | _ => none
 | _ => none, fun g xs bs => match g with
 | 9 => match xs, bs with
  | [.r (.ro tl__ ql_), .agg qweb_, .agg qp_], [] => (castL tl__ T2 ql_).bind fun l_ => (decS [] T5 qweb_).bind fun web_ => (decS [] T4 qp_).bind fun p_ => some (.one (res_u10 (v_u10 k l_ web_ p_), bo_u10 l_ web_ p_ (v_u10 k l_ web_ p_)))
  | _, _ => none
 | 10 => match xs, bs with
  | [.agg qx_], [] => (decS [] T3 qx_).bind fun x_ => some (.one (res_u52 (v_u52 k x_), bo_u52 x_ (v_u52 k x_)))
  | _, _ => none
 | 11 => match xs, bs with
  | [.r (.ro tl__ ql_), .agg qweb_, .r (.v (.int .i64 id_))], [] => (castL tl__ T2 ql_).bind fun l_ => (decS [] T5 qweb_).bind fun web_ => some (.one (res_u5 (v_u5 k l_ web_ id_), bo_u5 l_ web_ id_ (v_u5 k l_ web_ id_)))
  | _, _ => none
 | 13 => match xs, bs with
  | [.r (.ro tl__ ql_), .agg qweb_, .agg qp_], [] => (castL tl__ T2 ql_).bind fun l_ => (decS [] T5 qweb_).bind fun web_ => (decS [] T4 qp_).bind fun p_ => some (.one (res_u9 (v_u9 k l_ web_ p_), bo_u9 l_ web_ p_ (v_u9 k l_ web_ p_)))
  | _, _ => none
 | 14 => match xs, bs with
  | [.r (.ro tl__ ql_), .agg qweb_, .r (.v (.int .i64 id_))], [] => (castL tl__ T2 ql_).bind fun l_ => (decS [] T5 qweb_).bind fun web_ => some (.one (res_u8 (v_u8 k l_ web_ id_), bo_u8 l_ web_ id_ (v_u8 k l_ web_ id_)))
  | _, _ => none
 | 18 => match xs, bs with
  | [], [] => some (.one (res_u51 (v_u51 k ), bo_u51  (v_u51 k )))
  | _, _ => none
 | _ => none⟩
theorem of_u49 (k : Nat)  (r : R_u49) (h : f_u49 k  = some r) : CC Try.prog 8 (args_u49 ) (bin_u49 ) (res_u49 r) (bo_u49  r) := by
 refine CC.of (fn := Try.f8) (by kernel_rfl) (by kernel_rfl) (by kernel_rfl) (by kernel_rfl) ?_
 unfold f_u49 at h
 refine Ev.tree hm (R := Rt) (K := (K_u49 k)) (l := []) (C := []) (E := [.autoB [0] true []]) (n := 1000) (T := .need [CC Try.prog 18 (args_u51 ) (bin_u51 ) (res_u51 (v_u51 k )) (bo_u51  (v_u51 k ))] (.need [CC Try.prog 10 (args_u52 (v_u51 k)) (bin_u52 (v_u51 k)) (res_u52 (v_u52 k (v_u51 k))) (bo_u52 (v_u51 k) (v_u52 k (v_u51 k))), CC Try.prog 13 (args_u9 (v_u51 k).1 (v_u52 k (v_u51 k)) (2, 0, 0)) (bin_u9 (v_u51 k).1 (v_u52 k (v_u51 k)) (2, 0, 0)) (res_u9 (v_u9 k (v_u51 k).1 (v_u52 k (v_u51 k)) (2, 0, 0))) (bo_u9 (v_u51 k).1 (v_u52 k (v_u51 k)) (2, 0, 0) (v_u9 k (v_u51 k).1 (v_u52 k (v_u51 k)) (2, 0, 0)))] (.need [CC Try.prog 10 (args_u52 (v_u51 k)) (bin_u52 (v_u51 k)) (res_u52 (v_u52 k (v_u51 k))) (bo_u52 (v_u51 k) (v_u52 k (v_u51 k))), CC Try.prog 9 (args_u10 (v_u51 k).1 (v_u52 k (v_u51 k)) (2, 0, 0)) (bin_u10 (v_u51 k).1 (v_u52 k (v_u51 k)) (2, 0, 0)) (res_u10 (v_u10 k (v_u51 k).1 (v_u52 k (v_u51 k)) (2, 0, 0))) (bo_u10 (v_u51 k).1 (v_u52 k (v_u51 k)) (2, 0, 0) (v_u10 k (v_u51 k).1 (v_u52 k (v_u51 k)) (2, 0, 0)))] (.need [CC Try.prog 10 (args_u52 (v_u51 k)) (bin_u52 (v_u51 k)) (res_u52 (v_u52 k (v_u51 k))) (bo_u52 (v_u51 k) (v_u52 k (v_u51 k))), CC Try.prog 11 (args_u5 (v_u51 k).1 (v_u52 k (v_u51 k)) 2) (bin_u5 (v_u51 k).1 (v_u52 k (v_u51 k)) 2) (res_u5 (v_u5 k (v_u51 k).1 (v_u52 k (v_u51 k)) 2)) (bo_u5 (v_u51 k).1 (v_u52 k (v_u51 k)) 2 (v_u5 k (v_u51 k).1 (v_u52 k (v_u51 k)) 2))] (.need [CC Try.prog 10 (args_u52 (v_u51 k)) (bin_u52 (v_u51 k)) (res_u52 (v_u52 k (v_u51 k))) (bo_u52 (v_u51 k) (v_u52 k (v_u51 k))), CC Try.prog 14 (args_u8 (v_u51 k).1 (v_u52 k (v_u51 k)) 1) (bin_u8 (v_u51 k).1 (v_u52 k (v_u51 k)) 1) (res_u8 (v_u8 k (v_u51 k).1 (v_u52 k (v_u51 k)) 1)) (bo_u8 (v_u51 k).1 (v_u52 k (v_u51 k)) 1 (v_u8 k (v_u51 k).1 (v_u52 k (v_u51 k)) 1))] (.test (((v_u9 k (v_u51 k).1 (v_u52 k (v_u51 k)) ((2 : Int), (0 : Int), (0 : Int))).2 != (0 : Int) || (v_u10 k (v_u51 k).1 (v_u52 k (v_u51 k)) ((2 : Int), (0 : Int), (0 : Int))).2 != (0 : Int) || (v_u5 k (v_u51 k).1 (v_u52 k (v_u51 k)) (2 : Int)).2 != (0 : Int) || (v_u8 k (v_u51 k).1 (v_u52 k (v_u51 k)) (1 : Int)).2 != (0 : Int))) (.leaf (res_u49 false) (bo_u49  false)) (.test ((!eqT T4 (v_u9 k (v_u51 k).1 (v_u52 k (v_u51 k)) ((2 : Int), (0 : Int), (0 : Int))).1 ((1 : Int), (6 : Int), (99 : Int)) || (!eqT T4 (v_u10 k (v_u51 k).1 (v_u52 k (v_u51 k)) ((2 : Int), (0 : Int), (0 : Int))).1 ((0 : Int), (3 : Int), (0 : Int))) || (v_u8 k (v_u51 k).1 (v_u52 k (v_u51 k)) (1 : Int)).1 != (750 : Int))) (.leaf (res_u49 false) (bo_u49  false)) (.need [((v_u5 k (v_u51 k).1 (v_u52 k (v_u51 k)) (2 : Int)).1.1 == (3 : Int) && (v_u5 k (v_u51 k).1 (v_u52 k (v_u51 k)) (2 : Int)).1.2.1 == (5 : Int) && (! (v_u5 k (v_u51 k).1 (v_u52 k (v_u51 k)) (2 : Int)).1.2.2.1) && (↑ (List.length (v_u5 k (v_u51 k).1 (v_u52 k (v_u51 k)) (2 : Int)).1.2.2.2) : Int) == (1 : Int)) = true → (0 : Int) ≤ (0 : Int), ((v_u5 k (v_u51 k).1 (v_u52 k (v_u51 k)) (2 : Int)).1.1 == (3 : Int) && (v_u5 k (v_u51 k).1 (v_u52 k (v_u51 k)) (2 : Int)).1.2.1 == (5 : Int) && (! (v_u5 k (v_u51 k).1 (v_u52 k (v_u51 k)) (2 : Int)).1.2.2.1) && (↑ (List.length (v_u5 k (v_u51 k).1 (v_u52 k (v_u51 k)) (2 : Int)).1.2.2.2) : Int) == (1 : Int)) = true → (0 : Int) < (↑ (List.length (v_u5 k (v_u51 k).1 (v_u52 k (v_u51 k)) (2 : Int)).1.2.2.2) : Int)] (.leaf (res_u49 ((v_u5 k (v_u51 k).1 (v_u52 k (v_u51 k)) 2).1.1 == 3 && (v_u5 k (v_u51 k).1 (v_u52 k (v_u51 k)) 2).1.2.1 == 5 && (! (v_u5 k (v_u51 k).1 (v_u52 k (v_u51 k)) 2).1.2.2.1) && (↑ (List.length (v_u5 k (v_u51 k).1 (v_u52 k (v_u51 k)) 2).1.2.2.2) : Int) == 1 && eqT T0 (List.getD (v_u5 k (v_u51 k).1 (v_u52 k (v_u51 k)) 2).1.2.2.2 (Int.toNat 0) T0.dflt) (0, 50, false))) (bo_u49  ((v_u5 k (v_u51 k).1 (v_u52 k (v_u51 k)) 2).1.1 == 3 && (v_u5 k (v_u51 k).1 (v_u52 k (v_u51 k)) 2).1.2.1 == 5 && (! (v_u5 k (v_u51 k).1 (v_u52 k (v_u51 k)) 2).1.2.2.1) && (↑ (List.length (v_u5 k (v_u51 k).1 (v_u52 k (v_u51 k)) 2).1.2.2.2) : Int) == 1 && eqT T0 (List.getD (v_u5 k (v_u51 k).1 (v_u52 k (v_u51 k)) 2).1.2.2.2 (Int.toNat 0) T0.dflt) (0, 50, false)))))))))))) (by kernel_rfl) ?_
 by_cases q : ((f_u51 k ).isSome = true)
 ·rw [if_pos q] at h
  refine ⟨(conjC (cc_u51 k  q) conj0), ?_⟩
  by_cases q : ((f_u52 k (v_u51 k)).isSome = true) ∧ ((f_u9 k (v_u51 k).1 (v_u52 k (v_u51 k)) (2, 0, 0)).isSome = true)
  ·rw [if_pos q] at h
   refine ⟨(conjC (cc_u52 k (v_u51 k) q.1) (conjC (cc_u9 k (v_u51 k).1 (v_u52 k (v_u51 k)) (2, 0, 0) q.2) conj0)), ?_⟩
   by_cases q : ((f_u52 k (v_u51 k)).isSome = true) ∧ ((f_u10 k (v_u51 k).1 (v_u52 k (v_u51 k)) (2, 0, 0)).isSome = true)
   ·rw [if_pos q] at h
    refine ⟨(conjC (cc_u52 k (v_u51 k) q.1) (conjC (cc_u10 k (v_u51 k).1 (v_u52 k (v_u51 k)) (2, 0, 0) q.2) conj0)), ?_⟩
    by_cases q : ((f_u52 k (v_u51 k)).isSome = true) ∧ ((f_u5 k (v_u51 k).1 (v_u52 k (v_u51 k)) 2).isSome = true)
    ·rw [if_pos q] at h
     refine ⟨(conjC (cc_u52 k (v_u51 k) q.1) (conjC (cc_u5 k (v_u51 k).1 (v_u52 k (v_u51 k)) 2 q.2) conj0)), ?_⟩
     by_cases q : ((f_u52 k (v_u51 k)).isSome = true) ∧ ((f_u8 k (v_u51 k).1 (v_u52 k (v_u51 k)) 1).isSome = true)
     ·rw [if_pos q] at h
      refine ⟨(conjC (cc_u52 k (v_u51 k) q.1) (conjC (cc_u8 k (v_u51 k).1 (v_u52 k (v_u51 k)) 1 q.2) conj0)), ?_⟩
      refine ⟨fun c => ?_, fun c => ?_⟩
      ·rw [cond_t (show (((v_u9 k (v_u51 k).1 (v_u52 k (v_u51 k)) ((2 : Int), (0 : Int), (0 : Int))).2 != (0 : Int) || (v_u10 k (v_u51 k).1 (v_u52 k (v_u51 k)) ((2 : Int), (0 : Int), (0 : Int))).2 != (0 : Int) || (v_u5 k (v_u51 k).1 (v_u52 k (v_u51 k)) (2 : Int)).2 != (0 : Int) || (v_u8 k (v_u51 k).1 (v_u52 k (v_u51 k)) (1 : Int)).2 != (0 : Int))) = true from c)] at h
       cases h; exact ⟨rfl, rfl⟩
      ·rw [cond_f (show (((v_u9 k (v_u51 k).1 (v_u52 k (v_u51 k)) ((2 : Int), (0 : Int), (0 : Int))).2 != (0 : Int) || (v_u10 k (v_u51 k).1 (v_u52 k (v_u51 k)) ((2 : Int), (0 : Int), (0 : Int))).2 != (0 : Int) || (v_u5 k (v_u51 k).1 (v_u52 k (v_u51 k)) (2 : Int)).2 != (0 : Int) || (v_u8 k (v_u51 k).1 (v_u52 k (v_u51 k)) (1 : Int)).2 != (0 : Int))) = false from c)] at h
       refine ⟨fun c => ?_, fun c => ?_⟩
       ·rw [cond_t (show ((!eqT T4 (v_u9 k (v_u51 k).1 (v_u52 k (v_u51 k)) ((2 : Int), (0 : Int), (0 : Int))).1 ((1 : Int), (6 : Int), (99 : Int)) || (!eqT T4 (v_u10 k (v_u51 k).1 (v_u52 k (v_u51 k)) ((2 : Int), (0 : Int), (0 : Int))).1 ((0 : Int), (3 : Int), (0 : Int))) || (v_u8 k (v_u51 k).1 (v_u52 k (v_u51 k)) (1 : Int)).1 != (750 : Int))) = true from c)] at h
        cases h; exact ⟨rfl, rfl⟩
       ·rw [cond_f (show ((!eqT T4 (v_u9 k (v_u51 k).1 (v_u52 k (v_u51 k)) ((2 : Int), (0 : Int), (0 : Int))).1 ((1 : Int), (6 : Int), (99 : Int)) || (!eqT T4 (v_u10 k (v_u51 k).1 (v_u52 k (v_u51 k)) ((2 : Int), (0 : Int), (0 : Int))).1 ((0 : Int), (3 : Int), (0 : Int))) || (v_u8 k (v_u51 k).1 (v_u52 k (v_u51 k)) (1 : Int)).1 != (750 : Int))) = false from c)] at h
        by_cases q : (((v_u5 k (v_u51 k).1 (v_u52 k (v_u51 k)) (2 : Int)).1.1 == (3 : Int) && (v_u5 k (v_u51 k).1 (v_u52 k (v_u51 k)) (2 : Int)).1.2.1 == (5 : Int) && (! (v_u5 k (v_u51 k).1 (v_u52 k (v_u51 k)) (2 : Int)).1.2.2.1) && (↑ (List.length (v_u5 k (v_u51 k).1 (v_u52 k (v_u51 k)) (2 : Int)).1.2.2.2) : Int) == (1 : Int)) = true → (0 : Int) ≤ (0 : Int)) ∧ (((v_u5 k (v_u51 k).1 (v_u52 k (v_u51 k)) (2 : Int)).1.1 == (3 : Int) && (v_u5 k (v_u51 k).1 (v_u52 k (v_u51 k)) (2 : Int)).1.2.1 == (5 : Int) && (! (v_u5 k (v_u51 k).1 (v_u52 k (v_u51 k)) (2 : Int)).1.2.2.1) && (↑ (List.length (v_u5 k (v_u51 k).1 (v_u52 k (v_u51 k)) (2 : Int)).1.2.2.2) : Int) == (1 : Int)) = true → (0 : Int) < (↑ (List.length (v_u5 k (v_u51 k).1 (v_u52 k (v_u51 k)) (2 : Int)).1.2.2.2) : Int))
        ·rw [if_pos q] at h
         refine ⟨(conjC q.1 (conjC q.2 conj0)), ?_⟩
         cases h; exact ⟨rfl, rfl⟩
        ·rw [if_neg q] at h; cases h
     ·rw [if_neg q] at h; cases h
    ·rw [if_neg q] at h; cases h
   ·rw [if_neg q] at h; cases h
  ·rw [if_neg q] at h; cases h
 ·rw [if_neg q] at h; cases h
theorem cc_u49 (k : Nat)  (h : (f_u49 k ).isSome = true) : CC Try.prog 8 (args_u49 ) (bin_u49 ) (res_u49 (v_u49 k )) (bo_u49  (v_u49 k )) := by
 cases e : f_u49 k  with
 | none => rw [e] at h; cases h
 | some r => rw [show v_u49 k  = r by simp [v_u49, e]]; exact of_u49 k  r e

end
end Go.AM
namespace Go.AM
open Go Go.Proofs Go.IntKind
set_option linter.unusedVariables false
noncomputable section
abbrev R_u50 : Type := Bool
def res_u50 (r : R_u50) : AV := .r (.v (.bool r))
def bo_u50 (x_ : T3.T) (r : R_u50) : List (Nat × Blk) := []
def args_u50 (x_ : T3.T) : List AV := [.agg (rvs (enc T3 x_))]
def bin_u50 (x_ : T3.T) : List Blk := []
def st_u50_4 (y0 : List (T2).T) (y1 : Int) (y2 : Int) : St := ⟨mkS 22 [(10, .r (.ro T2 y0)), (11, .r (.v (.int .i64 y1))), (12, .r (.v (.int .i64 y2)))], []⟩
def f_u50_4 (k : Nat) : Nat → List (T2).T → Int → Int → Option R_u50
 | 0, _, _, _ => none
 | j + 1, y0, y1, y2 =>
 bif (decide (y2 < y1)) then
 if (0 ≤ y2) ∧ (y2 < (↑y0.length : Int)) then
 bif (decide ((↑ (List.length (y0.getD y2.toNat T2.dflt).2.2.2.2.2) : Int) > (20 : Int))) then
 some true
 else
 f_u50_4 k j y0 y1 ((i64.wrap (y2 + 1)))
 else none
 else
 some false
def f_u50 (k : Nat) (x_ : T3.T) : Option R_u50 :=
 bif (decide ((↑ (List.length x_.1) : Int) > (30 : Int))) then
 some true
 else
 f_u50_4 k k x_.1 ((↑ (List.length x_.1) : Int)) 0
def v_u50 (k : Nat) (x_ : T3.T) : R_u50 := (f_u50 k x_).getD false
def K_u50 (k : Nat) : Calld := ⟨fun g xs => match g with
 | _ => none, fun g xs bs => match g with
 | _ => none⟩
theorem ev_u50 (k : Nat) (x_ : T3.T) : ∀ j, (∀ (y0 : List (T2).T) (y1 : Int) (y2 : Int) (r : R_u50), f_u50_4 k j y0 y1 y2 = some r → Ev Try.prog Try.f6 0 (placeAt Try.f6 4) (st_u50_4 y0 y1 y2) (res_u50 r) (bo_u50 x_ r))
 | 0 => by
  intros; rename_i h; simp [f_u50_4] at h
 | j + 1 => by
  have ih := ev_u50 k x_ j
  ·intro y0 y1 y2 r h
   rw [f_u50_4] at h
   refine Ev.tree hm (R := Rt) (K := (K_u50 k)) (l := []) (C := [(4, [.autoB [10, 11, 12] false []])]) (E := [.autoB [2] true []]) (n := 1000) (T := .test ((decide (y2 < y1))) (.need [0 ≤ y2, y2 < (↑y0.length : Int)] (.test ((decide ((↑ (List.length (y0.getD y2.toNat T2.dflt).2.2.2.2.2) : Int) > (20 : Int)))) (.leaf (res_u50 true) (bo_u50 x_ true)) (.cut 4 (placeAt Try.f6 4) (st_u50_4 y0 y1 ((i64.wrap (y2 + 1))))))) (.leaf (res_u50 false) (bo_u50 x_ false))) (by kernel_rfl) ?_
   refine ⟨fun c => ?_, fun c => ?_⟩
   ·rw [cond_t (show ((decide (y2 < y1))) = true from c)] at h
    by_cases q : (0 ≤ y2) ∧ (y2 < (↑y0.length : Int))
    ·rw [if_pos q] at h
     refine ⟨(conjC q.1 (conjC q.2 conj0)), ?_⟩
     refine ⟨fun c => ?_, fun c => ?_⟩
     ·rw [cond_t (show ((decide ((↑ (List.length (y0.getD y2.toNat T2.dflt).2.2.2.2.2) : Int) > (20 : Int)))) = true from c)] at h
      cases h; exact ⟨rfl, rfl⟩
     ·rw [cond_f (show ((decide ((↑ (List.length (y0.getD y2.toNat T2.dflt).2.2.2.2.2) : Int) > (20 : Int)))) = false from c)] at h
      exact ih y0 y1 ((i64.wrap (y2 + 1))) _ h
    ·rw [if_neg q] at h; cases h
   ·rw [cond_f (show ((decide (y2 < y1))) = false from c)] at h
    cases h; exact ⟨rfl, rfl⟩
theorem of_u50 (k : Nat) (x_ : T3.T) (r : R_u50) (h : f_u50 k x_ = some r) : CC Try.prog 6 (args_u50 x_) (bin_u50 x_) (res_u50 r) (bo_u50 x_ r) := by
 refine CC.of (fn := Try.f6) (by kernel_rfl) (by kernel_rfl) (by kernel_rfl) (by kernel_rfl) ?_
 unfold f_u50 at h
 refine Ev.tree hm (R := Rt) (K := (K_u50 k)) (l := []) (C := [(4, [.autoB [10, 11, 12] false []])]) (E := [.autoB [2] true []]) (n := 1000) (T := .test ((decide ((↑ (List.length x_.1) : Int) > (30 : Int)))) (.leaf (res_u50 true) (bo_u50 x_ true)) (.cut 4 (placeAt Try.f6 4) (st_u50_4 x_.1 ((↑ (List.length x_.1) : Int)) 0))) (by kernel_rfl) ?_
 refine ⟨fun c => ?_, fun c => ?_⟩
 ·rw [cond_t (show ((decide ((↑ (List.length x_.1) : Int) > (30 : Int)))) = true from c)] at h
  cases h; exact ⟨rfl, rfl⟩
 ·rw [cond_f (show ((decide ((↑ (List.length x_.1) : Int) > (30 : Int)))) = false from c)] at h
  exact (ev_u50 k x_ k) x_.1 ((↑ (List.length x_.1) : Int)) 0 _ h
theorem cc_u50 (k : Nat) (x_ : T3.T) (h : (f_u50 k x_).isSome = true) : CC Try.prog 6 (args_u50 x_) (bin_u50 x_) (res_u50 (v_u50 k x_)) (bo_u50 x_ (v_u50 k x_)) := by
 cases e : f_u50 k x_ with
 | none => rw [e] at h; cases h
 | some r => rw [show v_u50 k x_ = r by simp [v_u50, e]]; exact of_u50 k x_ r e

end
end Go.AM
namespace Go.AM
open Go Go.Proofs

/-! ### the small register -/
def sm1 : Ro := (1, 0, 0, 10, true, [(99, 100, true)])
def sm2 : Ro := (2, 1, 2, 5, true, [(99, 50, true)])
def sm : List Ro := [sm1, sm2]
theorem single_one (r : Rn) (h : good r) (hc : chk [r] = 0) (hn : Nr (-1) [spn r]) : singleS [r] = true := by
  have e : nf ([r].map spn) = [spn r] := nf_self (spn_in (m := [r]) ⟨h, trivial⟩) hn
  unfold singleS
  rw [e, hc]
  have := h.lohi
  show (decide ((0 : Int) = 0) && ((hi r + 1 - lo r + 0) == r.2.1 + 0)) = true
  rw [beq_iff_eq.2 (by omega)]; rfl
theorem sm_reg : Reg sm 10 100 := by
  have h1 : singleS [(99, 100, true)] = true := single_one _ (by decide) (by decide) ⟨by decide, by decide, trivial⟩
  have h2 : singleS [(99, 50, true)] = true := single_one _ (by decide) (by decide) ⟨by decide, by decide, trivial⟩
  refine ⟨by decide, by decide, by decide, ?_⟩
  have o1 : Okp 10 100 ([] ++ [sm1]) := .snoc [] sm1 .nil ⟨by decide, by decide, .inl rfl, ⟨by decide, by decide, by decide, chk_zero.1 (by decide), by decide, h1, by decide⟩⟩ rfl rfl
  exact .snoc [sm1] sm2 o1 ⟨by decide, by decide, .inr ⟨sm1, rfl⟩, ⟨by decide, by decide, by decide, chk_zero.1 (by decide), by decide, h2, by decide⟩⟩ rfl rfl
theorem sm_err1 : errS sm 10 100 1 = 0 := errS_zero.2 ⟨sm_reg, .inr ⟨sm1, rfl⟩⟩
theorem sm_err2 : errS sm 10 100 2 = 0 := errS_zero.2 ⟨sm_reg, .inr ⟨sm2, rfl⟩⟩
theorem sm_up : upS sm 10 100 (2, 0, 0) = ((1, 6, 99), 0) := by
  unfold upS
  rw [if_neg (fun h : errS sm 10 100 2 ≠ 0 => h sm_err2)]
  rfl
theorem sm_web : webE sm 10 100 (2, 0, 0) = ((0, 3, 0), 0) := by
  have : onE sm 10 100 (2, 0, 0) = 0 := by
    unfold onE
    rw [if_neg (fun h : errS sm 10 100 2 ≠ 0 => h sm_err2)]
    rfl
  unfold webE
  rw [if_neg (fun h => h this)]
  rfl
theorem sm_cut : cutFull sm 10 100 2 = ((3, 5, false, [(0, 50, false)]), 0) := by
  unfold cutFull
  rw [if_neg (fun h : errS sm 10 100 2 ≠ 0 => h sm_err2)]
  rfl
theorem sm_rest : restE sm 10 100 1 = (750, 0) := by
  unfold restE
  rw [if_neg (fun h : errS sm 10 100 1 ≠ 0 => h sm_err1)]
  rfl
theorem awake_s (k : Nat) (hk : 301000 ≤ k) : f_u49 k = some true := by
  have hs : v_u51 k = (sm, 10, 100) := rfl
  have hw : v_u52 k (sm, 10, 100) = (10, 100) := rfl
  unfold f_u49
  rw [hs, hw]
  show (if (some (sm, (10 : Int), (100 : Int))).isSome = true then (if true = true ∧ (f_u9 k sm (10, 100) (2, 0, 0)).isSome = true then (if true = true ∧ (f_u10 k sm (10, 100) (2, 0, 0)).isSome = true then (if true = true ∧ (f_u5 k sm (10, 100) 2).isSome = true then (if true = true ∧ (f_u8 k sm (10, 100) 1).isSome = true then
    (bif ((v_u9 k sm (10, 100) (2, 0, 0)).2 != 0 || (v_u10 k sm (10, 100) (2, 0, 0)).2 != 0 || (v_u5 k sm (10, 100) 2).2 != 0 || (v_u8 k sm (10, 100) 1).2 != 0) then some false
      else bif (!eqT T4 (v_u9 k sm (10, 100) (2, 0, 0)).1 ((1 : Int), (6 : Int), (99 : Int)) || (!eqT T4 (v_u10 k sm (10, 100) (2, 0, 0)).1 ((0 : Int), (3 : Int), (0 : Int))) || (v_u8 k sm (10, 100) 1).1 != 750) then some false
      else _) else _) else _) else _) else _) else _) = _
  rw [fam_Up_s k (by omega), fam_Web_s k (by omega), fam_Cut_s k (by omega), fam_Rest_s k (by omega), fam_Up_v k (by omega), fam_Web_v k (by omega), fam_Cut_v k (by omega), fam_Rest_v k (by omega)]
  show (if (some (sm, (10 : Int), (100 : Int))).isSome = true then (if true = true ∧ (some (upS sm 10 100 (2, 0, 0))).isSome = true then (if true = true ∧ (some (webE sm 10 100 (2, 0, 0))).isSome = true then (if true = true ∧ (some (cutFull sm 10 100 2)).isSome = true then (if true = true ∧ (some (restE sm 10 100 1)).isSome = true then
    (bif ((upS sm 10 100 (2, 0, 0)).2 != 0 || (webE sm 10 100 (2, 0, 0)).2 != 0 || (cutFull sm 10 100 2).2 != 0 || (restE sm 10 100 1).2 != 0) then some false
      else bif (!eqT T4 (upS sm 10 100 (2, 0, 0)).1 ((1 : Int), (6 : Int), (99 : Int)) || (!eqT T4 (webE sm 10 100 (2, 0, 0)).1 ((0 : Int), (3 : Int), (0 : Int))) || (restE sm 10 100 1).1 != 750) then some false
      else _) else _) else _) else _) else _) else _) = _
  rw [sm_up, sm_web, sm_cut, sm_rest]
  rfl
theorem awake_v (k : Nat) (hk : 301000 ≤ k) : v_u49 k = true := by
  unfold v_u49; rw [awake_s k hk]; rfl
theorem web_v (k : Nat) (x : List Ro × Int × Int) : v_u52 k x = x.2 := rfl
theorem web_s (k : Nat) (x : List Ro × Int × Int) : f_u52 k x = some x.2 := rfl
theorem great_l (k : Nat) (l : List Ro) (hl : l.length ≤ 30) : ∀ (d i j : Nat), i + d = l.length → d < j → (f_u50_4 k j l (l.length : Int) (i : Int)).isSome = true := by
  intro d
  induction d with
  | zero =>
    intro i j hi hj
    obtain ⟨j, rfl⟩ : ∃ q, j = q + 1 := ⟨j - 1, by omega⟩
    rw [f_u50_4, decide_eq_false (by omega : ¬ (i : Int) < (l.length : Int)), cond_false]; rfl
  | succ d ih =>
    intro i j hi hj
    obtain ⟨j, rfl⟩ : ∃ q, j = q + 1 := ⟨j - 1, by omega⟩
    rw [f_u50_4, decide_eq_true (by omega : (i : Int) < (l.length : Int)), cond_true, if_pos ⟨by omega, by omega⟩, wrapS i (by omega)]
    cases decide ((List.length (l.getD (i : Int).toNat T2.dflt).2.2.2.2.2 : Int) > 20)
    · rw [cond_false]; exact ih (i + 1) j (by omega) (by omega)
    · rfl
theorem great_s (k : Nat) (hk : 100 ≤ k) (x : List Ro × Int × Int) : (f_u50 k x).isSome = true := by
  unfold f_u50
  by_cases h : x.1.length > 30
  · rw [decide_eq_true (by omega : (x.1.length : Int) > 30)]; rfl
  · rw [decide_eq_false (by omega : ¬ (x.1.length : Int) > 30), cond_false]
    exact great_l k x.1 (by omega) x.1.length 0 k (by omega) (by omega)
end Go.AM
namespace Go.AM
open Go Go.Proofs

/-! ### the cut from the web says where a point lies -/
def acrS (c : Ch) (x : Int) : Int := if c.2.2.1 = true then c.1 + c.2.1 - 1 - x else c.1 + x
structure CutIn (l : List Ro) (W L id : Int) (c : Ch) (n : Nat) : Prop where
  left : 0 ≤ c.1
  right : c.1 + c.2.1 ≤ W
  width : c.2.1 = (sizeS l W L id).1
  chk : Chk c.2.2.2
  len : lenS c.2.2.2 = (sizeS l W L id).2
  web : ∀ p : Pt, p.1 = id → On l W L p → webS l n p = (0, acrS c p.2.1, imgAt c.2.2.2 p.2.2)
end Go.AM
namespace Go.AM
open Go Go.Proofs

/-! ### how many integers lie in a set -/
def cnt (P : Int → Bool) : Nat → Nat
  | 0 => 0
  | n + 1 => cnt P n + (if P (n : Int) = true then 1 else 0)
theorem cnt_congr {P Q : Int → Bool} : ∀ n : Nat, (∀ x : Int, 0 ≤ x → x < n → P x = Q x) → cnt P n = cnt Q n
  | 0, _ => rfl
  | n + 1, h => by
    unfold cnt
    rw [cnt_congr n (fun x h0 h1 => h x h0 (by omega)), h n (by omega) (by omega)]
theorem cnt_or (P Q : Int → Bool) : ∀ n, cnt (fun x => P x || Q x) n + cnt (fun x => P x && Q x) n = cnt P n + cnt Q n
  | 0 => rfl
  | n + 1 => by
    have := cnt_or P Q n
    unfold cnt
    cases h1 : P (n : Int) <;> cases h2 : Q (n : Int) <;> simp only [Bool.or_true, Bool.or_false, Bool.and_true, Bool.and_false, Bool.false_eq_true, if_true, if_false] <;> omega
theorem cnt_false {P : Int → Bool} : ∀ n : Nat, (∀ x : Int, 0 ≤ x → x < n → P x = false) → cnt P n = 0
  | 0, _ => rfl
  | n + 1, h => by
    unfold cnt
    rw [cnt_false n (fun x h0 h1 => h x h0 (by omega)), h n (by omega) (by omega)]
    rfl
theorem cnt_seg (a b : Int) (h0 : 0 ≤ a) (hab : a ≤ b) : ∀ n : Nat, (cnt (fun x => decide (a ≤ x) && decide (x < b)) n : Int) = max 0 (min b n - a)
  | 0 => by unfold cnt; omega
  | n + 1 => by
    have := cnt_seg a b h0 hab n
    unfold cnt
    by_cases h1 : a ≤ (n : Int)
    · by_cases h2 : (n : Int) < b
      · rw [decide_eq_true h1, decide_eq_true h2]
        simp only [Bool.and_self, if_true]
        omega
      · rw [decide_eq_false h2, Bool.and_false, if_neg Bool.false_ne_true]
        omega
    · rw [decide_eq_false h1, Bool.false_and, if_neg Bool.false_ne_true]
      omega
/-- membership in spans, as a test -/
def hasT (l : List Sp) (x : Int) : Bool := l.any fun s => decide (s.1 ≤ x) && decide (x < s.2)
theorem hasT_cons (s : Sp) (l : List Sp) : hasT (s :: l) = fun x => (decide (s.1 ≤ x) && decide (x < s.2)) || hasT l x := by
  funext x; unfold hasT; rw [List.any_cons]
/-- the integers of a normal form -/
theorem tot_cnt {N : Nat} : ∀ (l : List Sp) (m : Int), Nr m l → -1 ≤ m → (∀ s ∈ l, s.2 ≤ N) → tot l = (cnt (hasT l) N : Int)
  | [], m, _, _, _ => by
    rw [cnt_false (P := hasT []) N (fun x _ _ => rfl)]; rfl
  | s :: t, m, h, hm, hb => by
    obtain ⟨h1, h2, h3⟩ := h
    have ih := tot_cnt t s.2 h3 (by omega) (fun q hq => hb q (by simp [hq]))
    have hor := cnt_or (fun x => decide (s.1 ≤ x) && decide (x < s.2)) (hasT t) N
    have hbs := hb s (by simp)
    have hz : cnt (fun x => (decide (s.1 ≤ x) && decide (x < s.2)) && hasT t x) N = 0 := cnt_false N fun x h0 hx => by
      by_cases hc : x < s.2
      · have : hasT t x = false := by
          have : ∀ (t : List Sp) (m : Int), Nr m t → x < m → hasT t x = false := fun t => by
            induction t with
            | nil => intros; rfl
            | cons u v ih =>
              intro m hn hx
              obtain ⟨g1, g2, g3⟩ := hn
              rw [hasT_cons]
              show ((decide (u.1 ≤ x) && decide (x < u.2)) || hasT v x) = false
              rw [decide_eq_false (by omega), ih u.2 g3 (by omega)]; rfl
          exact this t s.2 h3 hc
        show ((decide (s.1 ≤ x) && decide (x < s.2)) && hasT t x) = false
        rw [this, Bool.and_false]
      · show ((decide (s.1 ≤ x) && decide (x < s.2)) && hasT t x) = false
        rw [decide_eq_false hc, Bool.and_false, Bool.false_and]
    have hs := cnt_seg s.1 s.2 (by omega) (by omega) N
    rw [hasT_cons]
    show s.2 - s.1 + tot t = _
    omega
theorem hasT_iff (l : List Sp) (x : Int) : hasT l x = true ↔ has l x := by
  rw [has_iff]
  unfold hasT
  simp only [List.any_eq_true, Bool.and_eq_true, decide_eq_true_eq]
/-- the integers of the images of a map -/
def imT (m : List Rn) (x : Int) : Bool := hasT (m.map spn) x
abbrev NN : Nat := 17179869184
theorem single_cnt {m : List Rn} (h : singleS m = true) : Chk m ∧ (cnt (imT m) NN : Int) = lenS m := by
  unfold singleS at h
  rw [Bool.and_eq_true, decide_eq_true_eq, beq_iff_eq] at h
  have hc := chk_zero.1 h.1
  have hi := spn_in hc.goods
  refine ⟨hc, ?_⟩
  rw [← h.2, tot_cnt (N := NN) (nf (m.map spn)) (-1) (nf_nr hi) (by omega) (fun s hs => ((nf_in hi).mem s hs).2.2)]
  refine congrArg Int.ofNat (cnt_congr NN fun x _ _ => ?_)
  have h1 := nf_has hi x
  have h2 := hasT_iff (nf (m.map spn)) x
  have h3 := hasT_iff (m.map spn) x
  unfold imT
  cases e : hasT (m.map spn) x <;> cases e2 : hasT (nf (m.map spn)) x <;> simp_all
end Go.AM
namespace Go.AM
open Go Go.Proofs

/-! ### areas -/
theorem cnt_mono {P Q : Int → Bool} (n : Nat) (h : ∀ x : Int, 0 ≤ x → x < n → P x = true → Q x = true) : cnt P n ≤ cnt Q n := by
  induction n with
  | zero => exact Nat.le_refl _
  | succ n ih =>
    have := ih fun x h0 h1 => h x h0 (by omega)
    have h2 := h n (by omega) (by omega)
    unfold cnt
    cases h3 : P (n : Int)
    · simp only [Bool.false_eq_true, if_false]; split <;> omega
    · rw [h2 h3]; simp only [if_true]; omega
def covT (c : Ch) (x : Int) : Bool := decide (c.1 ≤ x) && decide (x < c.1 + c.2.1)
def colS : List Ro → Int → Int
  | [], _ => 0
  | r :: t, x => (if covT r.2.2 x = true then lenS r.2.2.2.2.2 else 0) + colS t x
def uniT : List Ro → Int → Int → Bool
  | [], _, _ => false
  | r :: t, x, z => (covT r.2.2 x && imT r.2.2.2.2.2 z) || uniT t x z
theorem imT_iff {m : List Rn} {z : Int} : imT m z = true ↔ ∃ r ∈ m, lo r ≤ z ∧ z ≤ Go.AM.hi r := by
  unfold imT
  rw [hasT_iff, has_iff]
  constructor
  · rintro ⟨s, hs, h0, h1⟩
    obtain ⟨r, hr, rfl⟩ := List.mem_map.1 hs
    exact ⟨r, hr, h0, by have : z < Go.AM.hi r + 1 := h1; omega⟩
  · rintro ⟨r, hr, h0, h1⟩
    exact ⟨spn r, List.mem_map_of_mem hr, h0, by show z < Go.AM.hi r + 1; omega⟩
/-- cuts that are apart share no point -/
theorem apart_of {a b : Ch} {x z : Int} (h : ovlS a b = false) (ha : covT a x = true) (hb : covT b x = true) (ia : imT a.2.2.2 z = true) (ib : imT b.2.2.2 z = true) : False := by
  obtain ⟨r, hr, r0, r1⟩ := imT_iff.1 ia
  obtain ⟨s, hs, s0, s1⟩ := imT_iff.1 ib
  unfold covT at ha hb
  rw [Bool.and_eq_true, decide_eq_true_eq, decide_eq_true_eq] at ha hb
  have hm : meetS a.2.2.2 b.2.2.2 = true := by
    unfold meetS
    rw [List.any_eq_true]
    refine ⟨r, hr, ?_⟩
    rw [List.any_eq_true]
    refine ⟨s, hs, ?_⟩
    rw [decide_eq_true (by omega), decide_eq_true (by omega)]; rfl
  unfold ovlS at h
  rw [hm, decide_eq_true (by omega), decide_eq_true (by omega)] at h
  cases h
theorem col_cnt (x : Int) : ∀ (C : List Ro), (∀ r ∈ C, singleS r.2.2.2.2.2 = true) → C.Pairwise (fun b r => ovlS r.2.2 b.2.2 = false) → (cnt (uniT C x) NN : Int) = colS C x := by
  intro C
  induction C with
  | nil =>
    intro _ _
    rw [cnt_false (P := uniT [] x) NN (fun x _ _ => rfl)]; rfl
  | cons r t ih =>
    intro hs hp
    obtain ⟨h1, h2⟩ := List.pairwise_cons.1 hp
    have ih := ih (fun q hq => hs q (by simp [hq])) h2
    have hsr := (single_cnt (hs r (by simp))).2
    have hor := cnt_or (fun z => covT r.2.2 x && imT r.2.2.2.2.2 z) (uniT t x) NN
    have hz : cnt (fun z => (covT r.2.2 x && imT r.2.2.2.2.2 z) && uniT t x z) NN = 0 := cnt_false NN fun z _ _ => by
      cases hc : covT r.2.2 x
      · rfl
      · cases hi : imT r.2.2.2.2.2 z
        · rfl
        · have : ∀ (t : List Ro), (∀ a' ∈ t, ovlS a'.2.2 r.2.2 = false) → uniT t x z = false := fun t => by
            induction t with
            | nil => intro _; rfl
            | cons u v ih =>
              intro h
              unfold uniT
              rw [ih fun q hq => h q (by simp [hq]), Bool.or_false]
              cases hu : covT u.2.2 x
              · rfl
              · cases hv : imT u.2.2.2.2.2 z
                · rfl
                · exact (apart_of (h u (by simp)) hu hc hv hi).elim
          show (true && uniT t x z) = false
          rw [this t h1]; rfl
    have e : uniT (r :: t) x = fun z => (covT r.2.2 x && imT r.2.2.2.2.2 z) || uniT t x z := rfl
    rw [e, colS]
    cases hc : covT r.2.2 x
    · rw [hc] at hor hz
      have h0 : cnt (fun z => false && imT r.2.2.2.2.2 z) NN = 0 := cnt_false NN fun _ _ _ => rfl
      simp only [Bool.false_eq_true, if_false]
      omega
    · rw [hc] at hor hz
      have h0 : cnt (fun z => true && imT r.2.2.2.2.2 z) NN = cnt (imT r.2.2.2.2.2) NN := cnt_congr NN fun x _ _ => Bool.true_and _
      simp only [if_true]
      omega
theorem col_le {C : List Ro} {n : Int} (x : Int) (h0 : 0 ≤ n) (hn : n ≤ 17179869184) (hs : ∀ r ∈ C, singleS r.2.2.2.2.2 = true) (hp : C.Pairwise (fun b r => ovlS r.2.2 b.2.2 = false)) (hf : ∀ r ∈ C, fitsIn n r.2.2.2.2.2) (hg : ∀ r ∈ C, goods r.2.2.2.2.2) : colS C x ≤ n := by
  rw [← col_cnt x C hs hp]
  have h1 : cnt (uniT C x) NN ≤ cnt (fun z => decide (0 ≤ z) && decide (z < n)) NN := cnt_mono NN fun z z0 z1 hu => by
    have : ∀ (C : List Ro), (∀ r ∈ C, fitsIn n r.2.2.2.2.2) → uniT C x z = true → z < n := fun C => by
      induction C with
      | nil => intro _ h; cases h
      | cons r t ih =>
        intro hf h
        unfold uniT at h
        rw [Bool.or_eq_true] at h
        rcases h with h | h
        · rw [Bool.and_eq_true] at h
          obtain ⟨q, hq, q0, q1⟩ := imT_iff.1 h.2
          have := fits_mem (hf r (by simp)) q hq
          omega
        · exact ih (fun q hq => hf q (by simp [hq])) h
    rw [decide_eq_true z0, decide_eq_true (this C hf hu)]; rfl
  have h2 := cnt_seg 0 n (by omega) h0 NN
  omega
def sumc (f : Int → Int) : Nat → Int
  | 0 => 0
  | n + 1 => sumc f n + f n
theorem sumc_add (f g : Int → Int) : ∀ n, sumc (fun x => f x + g x) n = sumc f n + sumc g n
  | 0 => rfl
  | n + 1 => by
    have := sumc_add f g n
    unfold sumc; omega
theorem sumc_zero : ∀ n, sumc (fun _ => 0) n = 0
  | 0 => rfl
  | n + 1 => by
    have := sumc_zero n
    unfold sumc; omega
theorem sumc_le {f : Int → Int} {m : Int} (h : ∀ x, f x ≤ m) : ∀ n : Nat, sumc f n ≤ n * m
  | 0 => by unfold sumc; simp
  | n + 1 => by
    have := sumc_le h n
    have h2 := h n
    unfold sumc
    rw [show ((n + 1 : Nat) : Int) = (n : Int) + 1 from rfl, Int.add_mul, Int.one_mul]
    omega
theorem sumc_ind (P : Int → Bool) (v : Int) : ∀ n, sumc (fun x => if P x = true then v else 0) n = (cnt P n : Int) * v
  | 0 => by unfold sumc cnt; simp
  | n + 1 => by
    have := sumc_ind P v n
    unfold sumc cnt
    cases h : P (n : Int)
    · simp only [Bool.false_eq_true, if_false]; rw [this]; simp
    · simp only [if_true]
      rw [show ((cnt P n + 1 : Nat) : Int) = (cnt P n : Int) + 1 from rfl, Int.add_mul, Int.one_mul, this]
def areaS : List Ro → Int
  | [] => 0
  | r :: t => r.2.2.2.1 * lenS r.2.2.2.2.2 + areaS t
theorem area_col (w : Nat) : ∀ (C : List Ro), (∀ r ∈ C, 0 ≤ r.2.2.1 ∧ 1 ≤ r.2.2.2.1 ∧ r.2.2.1 + r.2.2.2.1 ≤ w) → sumc (colS C) w = areaS C
  | [], _ => sumc_zero w
  | r :: t, h => by
    have ih := area_col w t fun q hq => h q (by simp [hq])
    obtain ⟨a, b, c⟩ := h r (by simp)
    have e : colS (r :: t) = fun x => (if covT r.2.2 x = true then lenS r.2.2.2.2.2 else 0) + colS t x := rfl
    have h1 := cnt_seg r.2.2.1 (r.2.2.1 + r.2.2.2.1) a (by omega) w
    have h2 : (cnt (covT r.2.2) w : Int) = r.2.2.2.1 := by
      show (cnt (fun x => decide (r.2.2.1 ≤ x) && decide (x < r.2.2.1 + r.2.2.2.1)) w : Int) = _
      omega
    rw [e, sumc_add, sumc_ind, h2, ih]; rfl
/-- the area of cuts that are apart -/
theorem area_le {C : List Ro} {w n : Int} (hw : 0 ≤ w) (h0 : 0 ≤ n) (hn : n ≤ 17179869184) (hc : ∀ r ∈ C, CutOk r.2.2 w n) (hp : C.Pairwise (fun b r => ovlS r.2.2 b.2.2 = false)) : areaS C ≤ w * n := by
  obtain ⟨w, rfl⟩ : ∃ q : Nat, w = q := ⟨w.toNat, by omega⟩
  rw [← area_col w C fun r hr => ⟨(hc r hr).left, (hc r hr).width, (hc r hr).right⟩]
  exact sumc_le (fun x => col_le x h0 hn (fun r hr => (hc r hr).single) hp (fun r hr => (hc r hr).fits) (fun r hr => (hc r hr).chk.goods)) w
theorem Okp.pairs {W L : Int} {l : List Ro} (h : Okp W L l) : l.Pairwise (fun b r => r.2.1 = b.2.1 → ovlS r.2.2 b.2.2 = false) := by
  induction h with
  | nil => exact List.Pairwise.nil
  | snoc p r h f n c ih =>
    refine List.pairwise_append.2 ⟨ih, List.pairwise_singleton _ _, fun b hb q hq e => ?_⟩
    rw [List.mem_singleton] at hq
    subst hq
    unfold clash at c
    rw [List.any_eq_false] at c
    have := c b hb
    rw [beq_iff_eq.2 e, Bool.true_and] at this
    simpa using this
def kids (l : List Ro) (id : Int) : List Ro := l.filter fun r => r.2.1 == id
theorem Reg.area {l : List Ro} {W L id : Int} (reg : Reg l W L) (kn : id = 0 ∨ ∃ q, look l id = some q) : areaS (kids l id) ≤ (sizeS l W L id).1 * (sizeS l W L id).2 := by
  have hs := reg.small 512 id (reg.anc kn)
  refine area_le hs.1 hs.2.2.1 hs.2.2.2 (fun r hr => ?_) ?_
  · obtain ⟨h1, h2⟩ := List.mem_filter.1 hr
    have := (reg.ok.ro r h1).cut
    rw [beq_iff_eq.1 h2] at this
    exact this
  · have h := reg.ok.pairs.sublist (List.filter_sublist (p := fun r => r.2.1 == id))
    refine h.imp_of_mem fun {a b} ha hb q => q ?_
    have h1 := beq_iff_eq.1 (List.mem_filter.1 ha).2
    have h2 := beq_iff_eq.1 (List.mem_filter.1 hb).2
    rw [h1, h2]
theorem prod_le {a b : Int} (h0 : 0 ≤ a) (h1 : a ≤ 12000) (h2 : 0 ≤ b) (h3 : b ≤ 17179869184) : 0 ≤ a * b ∧ a * b ≤ 206158430208000 := by
  refine ⟨Int.mul_nonneg h0 h2, ?_⟩
  have := Int.mul_le_mul h1 h3 h2 (by omega : (0 : Int) ≤ 12000)
  omega
theorem area_nonneg {C : List Ro} (h : ∀ r ∈ C, 0 ≤ r.2.2.2.1 ∧ goods r.2.2.2.2.2) : 0 ≤ areaS C := by
  induction C with
  | nil => exact Int.le_refl _
  | cons r t ih =>
    have h1 := ih fun q hq => h q (by simp [hq])
    obtain ⟨a, b⟩ := h r (by simp)
    have := lenS_nonneg b
    have := Int.mul_nonneg a (by omega : 0 ≤ lenS r.2.2.2.2.2)
    unfold areaS; omega
theorem rest_area (id : Int) : ∀ (t : List Ro) (y : Int), (∀ r ∈ t, 1 ≤ r.2.2.2.1 ∧ r.2.2.2.1 ≤ 12000 ∧ Chk r.2.2.2.2.2) → areaS (kids t id) ≤ y → y ≤ 206158430208000 → restGo id t y = y - areaS (kids t id) := by
  intro t
  induction t with
  | nil => intro y _ _ _; unfold restGo kids areaS; simp only [List.filter_nil]; omega
  | cons r t ih =>
    intro y h hy hm
    have ht : ∀ q ∈ t, 1 ≤ q.2.2.2.1 ∧ q.2.2.2.1 ≤ 12000 ∧ Chk q.2.2.2.2.2 := fun q hq => h q (by simp [hq])
    obtain ⟨a, b, c⟩ := h r (by simp)
    have hl := lenS_nonneg c.goods
    have hc := c.tot
    obtain ⟨p1, p2⟩ := prod_le (by omega : 0 ≤ r.2.2.2.1) b (by omega : 0 ≤ lenS r.2.2.2.2.2) hc
    have hn : 0 ≤ areaS (kids t id) := area_nonneg fun q hq => by
      obtain ⟨x, y, z⟩ := ht q (List.mem_filter.1 hq).1
      exact ⟨by omega, z.goods⟩
    unfold kids at hy hn ⊢
    rw [List.filter_cons] at hy ⊢
    unfold restGo
    by_cases e : r.2.1 = id
    · have e' : (r.2.1 == id) = true := beq_iff_eq.2 e
      rw [if_pos e'] at hy ⊢
      rw [areaS] at hy ⊢
      rw [if_pos e, wrap_id (i := r.2.2.2.1 * lenS r.2.2.2.2.2) (by omega) (by omega), wrap_id (by omega) (by omega), ih _ ht (by unfold kids; omega) (by omega)]
      unfold kids
      omega
    · have e' : (r.2.1 == id) = false := beq_false_of_ne e
      rw [e', if_neg Bool.false_ne_true] at hy
      rw [e', if_neg Bool.false_ne_true, if_neg e, ih _ ht hy hm]
      rfl
theorem rest_eq {l : List Ro} {W L id : Int} (reg : Reg l W L) (kn : id = 0 ∨ ∃ q, look l id = some q) : restE l W L id = ((sizeS l W L id).1 * (sizeS l W L id).2 - areaS (kids l id), 0) := by
  have hs := reg.small 512 id (reg.anc kn)
  obtain ⟨p1, p2⟩ := prod_le hs.1 hs.2.1 hs.2.2.1 hs.2.2.2
  have hz : errS l W L id = 0 := errS_zero.2 ⟨reg, kn⟩
  unfold restE
  rw [if_neg (fun h => h hz), wrap_id (by omega) (by omega), rest_area id l _ (fun r hr => ?_) (reg.area kn) p2]
  obtain ⟨a, b, c, d⟩ := reg.wl r hr
  exact ⟨b, by omega, d⟩
/-- sums over numbers -/
def sumI (f : Int → Int) : List Int → Int
  | [] => 0
  | a :: t => f a + sumI f t
theorem sumI_add (f g : Int → Int) : ∀ A, sumI (fun x => f x + g x) A = sumI f A + sumI g A
  | [] => rfl
  | a :: t => by
    have := sumI_add f g t
    unfold sumI; omega
theorem sumI_ind (b v : Int) : ∀ A : List Int, A.Nodup → sumI (fun a => if b = a then v else 0) A = if b ∈ A then v else 0
  | [], _ => by unfold sumI; simp
  | a :: t, h => by
    obtain ⟨h1, h2⟩ := List.nodup_cons.1 h
    have := sumI_ind b v t h2
    unfold sumI
    by_cases e : b = a
    · subst e
      rw [if_pos rfl, this, if_neg h1, if_pos (by simp)]; omega
    · rw [if_neg e, this]
      by_cases e2 : b ∈ t
      · rw [if_pos e2, if_pos (by simp [e2])]; omega
      · rw [if_neg e2, if_neg (by simp [e, e2])]; omega
theorem sumI_zero : ∀ A : List Int, sumI (fun _ => 0) A = 0
  | [] => rfl
  | a :: t => by
    have := sumI_zero t
    unfold sumI; omega
theorem area_parts (A : List Int) (hA : A.Nodup) : ∀ B : List Ro, (∀ s ∈ B, s.2.1 ∈ A) → sumI (fun a => areaS (kids B a)) A = areaS B
  | [], _ => sumI_zero A
  | s :: t, h => by
    have ih := area_parts A hA t fun q hq => h q (by simp [hq])
    have e : (fun a => areaS (kids (s :: t) a)) = fun a => (if s.2.1 = a then s.2.2.2.1 * lenS s.2.2.2.2.2 else 0) + areaS (kids t a) := by
      funext a
      unfold kids
      rw [List.filter_cons]
      by_cases h1 : s.2.1 = a
      · rw [if_pos h1, if_pos (beq_iff_eq.2 h1)]; rfl
      · rw [if_neg h1, if_neg (by rw [beq_false_of_ne h1]; exact Bool.false_ne_true)]; omega
    rw [e, sumI_add, sumI_ind _ _ A hA, if_pos (h s (by simp)), ih]; rfl
theorem Okp.nodup {W L : Int} {l : List Ro} (h : Okp W L l) : (0 :: l.map (·.1)).Nodup := by
  refine List.nodup_cons.2 ⟨fun h0 => ?_, ?_⟩
  · obtain ⟨r, hr, e⟩ := List.mem_map.1 h0
    have := (h.ro r hr).pos
    omega
  · induction h with
    | nil => simp
    | snoc p r h f n c ih =>
      rw [List.map_append, List.nodup_append]
      refine ⟨ih, by simp, fun a ha b hb e => ?_⟩
      obtain ⟨q, hq, rfl⟩ := List.mem_map.1 ha
      rw [List.map_cons, List.map_nil, List.mem_singleton] at hb
      subst hb
      exact look_none n q hq e
/-- the sum of all rests -/
theorem rests_sum {l : List Ro} {W L : Int} (reg : Reg l W L) : (restE l W L 0).1 + sumI (fun a => (restE l W L a).1) (l.map (·.1)) = W * L := by
  have hp := area_parts (0 :: l.map (·.1)) reg.ok.nodup l fun s hs => by
    rcases (reg.ok.ro s hs).parent with h | ⟨q, h⟩
    · rw [h]; simp
    · obtain ⟨h1, h2⟩ := look_some h
      rw [← h2]
      exact List.mem_cons_of_mem _ (List.mem_map_of_mem h1)
  have hs0 : sizeS l W L 0 = (W, L) := by unfold sizeS; rw [if_pos rfl]
  have h0 := rest_eq reg (id := 0) (.inl rfl)
  rw [hs0] at h0
  rw [h0]
  have key : ∀ (t : List Ro), (∀ r ∈ t, r ∈ l) → sumI (fun a => (restE l W L a).1) (t.map (·.1)) = areaS t - sumI (fun a => areaS (kids l a)) (t.map (·.1)) := fun t => by
    induction t with
    | nil => intro _; rfl
    | cons r t ih =>
      intro h
      have ro := reg.ok.ro r (h r (by simp))
      have := ih fun q hq => h q (by simp [hq])
      have hp := ro.pos
      rw [List.map_cons, sumI, sumI, areaS, this, rest_eq reg (.inr ⟨r, ro.look⟩), size_some (by omega) ro.look]
      show r.2.2.2.1 * lenS r.2.2.2.2.2 - areaS (kids l r.1) + _ = _
      omega
  rw [key l fun r hr => hr]
  rw [sumI] at hp
  show W * L - areaS (kids l 0) + _ = _
  omega
theorem rest_nonneg {l : List Ro} {W L id : Int} (reg : Reg l W L) (kn : id = 0 ∨ ∃ q, look l id = some q) : 0 ≤ (restE l W L id).1 ∧ (restE l W L id).1 ≤ 206158430208000 ∧ (restE l W L id).2 = 0 := by
  have hs := reg.small 512 id (reg.anc kn)
  obtain ⟨p1, p2⟩ := prod_le hs.1 hs.2.1 hs.2.2.1 hs.2.2.2
  have hz : areaS (kids l id) ≤ _ := reg.area kn
  have hn : 0 ≤ areaS (kids l id) := area_nonneg fun q hq => by
    have := reg.wl q (List.mem_filter.1 hq).1
    exact ⟨by have := this.w0; omega, this.chk.goods⟩
  rw [rest_eq reg kn]
  exact ⟨by show 0 ≤ _ - _; omega, by show _ - _ ≤ _; omega, rfl⟩
end Go.AM
namespace Go.AM
open Go Go.Proofs Go.IntKind
set_option linter.unusedVariables false
noncomputable section
abbrev R_u47 : Type := Bool
def res_u47 (r : R_u47) : AV := .r (.v (.bool r))
def bo_u47 (x_ : T3.T) (r : R_u47) : List (Nat × Blk) := []
def args_u47 (x_ : T3.T) : List AV := [.agg (rvs (enc T3 x_))]
def bin_u47 (x_ : T3.T) : List Blk := []
def st_u47_4 (y0 : Int) (y1 : T3.T) : St := ⟨mkS 88 [(1, .ptr 1000000 0 0), (3, .r (.v (.int .i64 y0)))], [(1000000, 0, .var 24 (rvs (enc T3 y1)))]⟩
def st_u47_10 (y0 : Int) (y1 : Int) (y2 : List (T2).T) (y3 : Int) (y4 : Int) (y5 : T3.T) : St := ⟨mkS 88 [(1, .ptr 1000000 0 0), (3, .r (.v (.int .i64 y0))), (4, .r (.v (.int .i64 y1))), (42, .r (.ro T2 y2)), (43, .r (.v (.int .i64 y3))), (44, .r (.v (.int .i64 y4)))], [(1000000, 0, .var 24 (rvs (enc T3 y5)))]⟩
mutual
def f_u47_4 (k : Nat) : Nat → Int → T3.T → Option R_u47
 | 0, _, _ => none
 | j + 1, y0, y1 =>
 bif (decide (y0 < (2 : Int))) then
 if ((f_u52 k y1).isSome = true) ∧ ((f_u8 k y1.1 (v_u52 k y1) 0).isSome = true) then
 bif ((v_u8 k y1.1 (v_u52 k y1) (0 : Int)).2 != (0 : Int) || decide ((v_u8 k y1.1 (v_u52 k y1) (0 : Int)).1 < (0 : Int))) then
 some false
 else
 f_u47_10 k j y0 ((v_u8 k y1.1 (v_u52 k y1) 0).1) y1.1 ((↑ (List.length y1.1) : Int)) 0 y1
 else none
 else
 if ((f_u49 k ).isSome = true) then
 some (v_u49 k)
 else none
def f_u47_10 (k : Nat) : Nat → Int → Int → List (T2).T → Int → Int → T3.T → Option R_u47
 | 0, _, _, _, _, _, _ => none
 | j + 1, y0, y1, y2, y3, y4, y5 =>
 bif (decide (y4 < y3)) then
 if (0 ≤ y4) ∧ (y4 < (↑y2.length : Int)) then
 if ((f_u52 k y5).isSome = true) ∧ ((f_u8 k y5.1 (v_u52 k y5) (y2.getD y4.toNat T2.dflt).1).isSome = true) then
 bif ((v_u8 k y5.1 (v_u52 k y5) (y2.getD y4.toNat T2.dflt).1).2 != (0 : Int) || decide ((v_u8 k y5.1 (v_u52 k y5) (y2.getD y4.toNat T2.dflt).1).1 < (0 : Int))) then
 some false
 else
 f_u47_10 k j y0 ((i64.wrap (y1 + (v_u8 k y5.1 (v_u52 k y5) (y2.getD y4.toNat T2.dflt).1).1))) y2 y3 ((i64.wrap (y4 + 1))) y5
 else none
 else none
 else
 bif (y1 != i64.wrap (y5.2.1 * y5.2.2)) then
 some false
 else
 bif (decide ((↑ (List.length y5.1) : Int) > (0 : Int))) then
 if ((0 : Int) ≤ (0 : Int)) ∧ ((0 : Int) ≤ i64.wrap ((↑ (List.length y5.1) : Int) - (1 : Int))) ∧ (i64.wrap ((↑ (List.length y5.1) : Int) - (1 : Int)) ≤ (↑ (List.length y5.1) : Int)) then
 f_u47_4 k j ((i64.wrap (y0 + 1))) ((List.take ((i64.wrap ((↑ (List.length y5.1) : Int) - 1)).toNat - Int.toNat 0) (List.drop (Int.toNat 0) y5.1), (y5.2.1, y5.2.2)))
 else none
 else
 f_u47_4 k j ((i64.wrap (y0 + 1))) y5
end
def f_u47 (k : Nat) (x_ : T3.T) : Option R_u47 :=
 bif (v_u50 k x_) then
 if ((f_u50 k x_).isSome = true) ∧ (v_u50 k x_ = true) then
 if ((f_u49 k ).isSome = true) then
 some (v_u49 k)
 else none
 else none
 else
 if ((f_u50 k x_).isSome = true) ∧ (v_u50 k x_ = false) ∧ ((f_u4 k x_.1 x_.2.1 x_.2.2).isSome = true) then
 bif (false || v_u4 k x_.1 x_.2.1 x_.2.2 != (0 : Int)) then
 if ((f_u49 k ).isSome = true) then
 some (v_u49 k)
 else none
 else
 f_u47_4 k k 0 x_
 else none
def K_u47 (k : Nat) : Calld := ⟨fun g xs => match g with
 | 6 => match xs with
  | [_] => some [false]
  | _ => none
 | 7 => match xs with
  | [_, _, _] => some [false, false, false]
  | _ => none
 | 10 => match xs with
  | [_] => some [false]
  | _ => none
 | 14 => match xs with
  | [_, _, _] => some [false, false, false]
  | _ => none
 | 8 => match xs with
  | [] => some []
  | _ => none
 | _ => none, fun g xs bs => match g with
 | 6 => match xs, bs with
  | [.agg qx_], [] => (decS [] T3 qx_).bind fun x_ => some (.one (res_u50 (v_u50 k x_), bo_u50 x_ (v_u50 k x_)))
  | _, _ => none
 | 7 => match xs, bs with
  | [.r (.ro tl__ ql_), .r (.v (.int .i64 width_)), .r (.v (.int .i64 length_))], [] => (castL tl__ T2 ql_).bind fun l_ => some (.one (res_u4 (v_u4 k l_ width_ length_), bo_u4 l_ width_ length_ (v_u4 k l_ width_ length_)))
  | _, _ => none
 | 10 => match xs, bs with
  | [.agg qx_], [] => (decS [] T3 qx_).bind fun x_ => some (.one (res_u52 (v_u52 k x_), bo_u52 x_ (v_u52 k x_)))
  | _, _ => none
 | 14 => match xs, bs with
  | [.r (.ro tl__ ql_), .agg qweb_, .r (.v (.int .i64 id_))], [] => (castL tl__ T2 ql_).bind fun l_ => (decS [] T5 qweb_).bind fun web_ => some (.one (res_u8 (v_u8 k l_ web_ id_), bo_u8 l_ web_ id_ (v_u8 k l_ web_ id_)))
  | _, _ => none
 | 8 => match xs, bs with
  | [], [] => some (.one (res_u49 (v_u49 k ), bo_u49  (v_u49 k )))
  | _, _ => none
 | _ => none⟩
theorem ev_u47 (k : Nat) (x_ : T3.T) : ∀ j, (∀ (y0 : Int) (y1 : T3.T) (r : R_u47), f_u47_4 k j y0 y1 = some r → Ev Try.prog Try.f4 0 (placeAt Try.f4 4) (st_u47_4 y0 y1) (res_u47 r) (bo_u47 x_ r)) ∧ (∀ (y0 : Int) (y1 : Int) (y2 : List (T2).T) (y3 : Int) (y4 : Int) (y5 : T3.T) (r : R_u47), f_u47_10 k j y0 y1 y2 y3 y4 y5 = some r → Ev Try.prog Try.f4 0 (placeAt Try.f4 10) (st_u47_10 y0 y1 y2 y3 y4 y5) (res_u47 r) (bo_u47 x_ r))
 | 0 => by
  refine ⟨?_, ?_⟩ <;> intros <;> rename_i h <;> simp [f_u47_4, f_u47_10] at h
 | j + 1 => by
  have ih := ev_u47 k x_ j
  refine ⟨?_, ?_⟩
  ·intro y0 y1 r h
   rw [f_u47_4] at h
   refine Ev.tree hm (R := Rt) (K := (K_u47 k)) (l := []) (C := [(4, [.autoB [1, 3] false []]), (10, [.autoB [1, 3, 4, 42, 43, 44] false []])]) (E := [.autoB [2] true []]) (n := 1000) (T := .test ((decide (y0 < (2 : Int)))) (.need [CC Try.prog 10 (args_u52 y1) (bin_u52 y1) (res_u52 (v_u52 k y1)) (bo_u52 y1 (v_u52 k y1)), CC Try.prog 14 (args_u8 y1.1 (v_u52 k y1) 0) (bin_u8 y1.1 (v_u52 k y1) 0) (res_u8 (v_u8 k y1.1 (v_u52 k y1) 0)) (bo_u8 y1.1 (v_u52 k y1) 0 (v_u8 k y1.1 (v_u52 k y1) 0))] (.test (((v_u8 k y1.1 (v_u52 k y1) (0 : Int)).2 != (0 : Int) || decide ((v_u8 k y1.1 (v_u52 k y1) (0 : Int)).1 < (0 : Int)))) (.leaf (res_u47 false) (bo_u47 x_ false)) (.cut 10 (placeAt Try.f4 10) (st_u47_10 y0 ((v_u8 k y1.1 (v_u52 k y1) 0).1) y1.1 ((↑ (List.length y1.1) : Int)) 0 y1)))) (.need [CC Try.prog 8 (args_u49 ) (bin_u49 ) (res_u49 (v_u49 k )) (bo_u49  (v_u49 k ))] (.leaf (res_u47 (v_u49 k)) (bo_u47 x_ (v_u49 k))))) (by kernel_rfl) ?_
   refine ⟨fun c => ?_, fun c => ?_⟩
   ·rw [cond_t (show ((decide (y0 < (2 : Int)))) = true from c)] at h
    by_cases q : ((f_u52 k y1).isSome = true) ∧ ((f_u8 k y1.1 (v_u52 k y1) 0).isSome = true)
    ·rw [if_pos q] at h
     refine ⟨(conjC (cc_u52 k y1 q.1) (conjC (cc_u8 k y1.1 (v_u52 k y1) 0 q.2) conj0)), ?_⟩
     refine ⟨fun c => ?_, fun c => ?_⟩
     ·rw [cond_t (show (((v_u8 k y1.1 (v_u52 k y1) (0 : Int)).2 != (0 : Int) || decide ((v_u8 k y1.1 (v_u52 k y1) (0 : Int)).1 < (0 : Int)))) = true from c)] at h
      cases h; exact ⟨rfl, rfl⟩
     ·rw [cond_f (show (((v_u8 k y1.1 (v_u52 k y1) (0 : Int)).2 != (0 : Int) || decide ((v_u8 k y1.1 (v_u52 k y1) (0 : Int)).1 < (0 : Int)))) = false from c)] at h
      exact ih.2 y0 ((v_u8 k y1.1 (v_u52 k y1) 0).1) y1.1 ((↑ (List.length y1.1) : Int)) 0 y1 _ h
    ·rw [if_neg q] at h; cases h
   ·rw [cond_f (show ((decide (y0 < (2 : Int)))) = false from c)] at h
    by_cases q : ((f_u49 k ).isSome = true)
    ·rw [if_pos q] at h
     refine ⟨(conjC (cc_u49 k  q) conj0), ?_⟩
     cases h; exact ⟨rfl, rfl⟩
    ·rw [if_neg q] at h; cases h
  ·intro y0 y1 y2 y3 y4 y5 r h
   rw [f_u47_10] at h
   refine Ev.tree hm (R := Rt) (K := (K_u47 k)) (l := []) (C := [(4, [.autoB [1, 3] false []]), (10, [.autoB [1, 3, 4, 42, 43, 44] false []])]) (E := [.autoB [2] true []]) (n := 1000) (T := .test ((decide (y4 < y3))) (.need [0 ≤ y4, y4 < (↑y2.length : Int)] (.need [CC Try.prog 10 (args_u52 y5) (bin_u52 y5) (res_u52 (v_u52 k y5)) (bo_u52 y5 (v_u52 k y5)), CC Try.prog 14 (args_u8 y5.1 (v_u52 k y5) (y2.getD y4.toNat T2.dflt).1) (bin_u8 y5.1 (v_u52 k y5) (y2.getD y4.toNat T2.dflt).1) (res_u8 (v_u8 k y5.1 (v_u52 k y5) (y2.getD y4.toNat T2.dflt).1)) (bo_u8 y5.1 (v_u52 k y5) (y2.getD y4.toNat T2.dflt).1 (v_u8 k y5.1 (v_u52 k y5) (y2.getD y4.toNat T2.dflt).1))] (.test (((v_u8 k y5.1 (v_u52 k y5) (y2.getD y4.toNat T2.dflt).1).2 != (0 : Int) || decide ((v_u8 k y5.1 (v_u52 k y5) (y2.getD y4.toNat T2.dflt).1).1 < (0 : Int)))) (.leaf (res_u47 false) (bo_u47 x_ false)) (.cut 10 (placeAt Try.f4 10) (st_u47_10 y0 ((i64.wrap (y1 + (v_u8 k y5.1 (v_u52 k y5) (y2.getD y4.toNat T2.dflt).1).1))) y2 y3 ((i64.wrap (y4 + 1))) y5))))) (.test ((y1 != i64.wrap (y5.2.1 * y5.2.2))) (.leaf (res_u47 false) (bo_u47 x_ false)) (.test ((decide ((↑ (List.length y5.1) : Int) > (0 : Int)))) (.need [(0 : Int) ≤ (0 : Int), (0 : Int) ≤ i64.wrap ((↑ (List.length y5.1) : Int) - (1 : Int)), i64.wrap ((↑ (List.length y5.1) : Int) - (1 : Int)) ≤ (↑ (List.length y5.1) : Int)] (.cut 4 (placeAt Try.f4 4) (st_u47_4 ((i64.wrap (y0 + 1))) ((List.take ((i64.wrap ((↑ (List.length y5.1) : Int) - 1)).toNat - Int.toNat 0) (List.drop (Int.toNat 0) y5.1), (y5.2.1, y5.2.2)))))) (.cut 4 (placeAt Try.f4 4) (st_u47_4 ((i64.wrap (y0 + 1))) y5))))) (by kernel_rfl) ?_
   refine ⟨fun c => ?_, fun c => ?_⟩
   ·rw [cond_t (show ((decide (y4 < y3))) = true from c)] at h
    by_cases q : (0 ≤ y4) ∧ (y4 < (↑y2.length : Int))
    ·rw [if_pos q] at h
     refine ⟨(conjC q.1 (conjC q.2 conj0)), ?_⟩
     by_cases q : ((f_u52 k y5).isSome = true) ∧ ((f_u8 k y5.1 (v_u52 k y5) (y2.getD y4.toNat T2.dflt).1).isSome = true)
     ·rw [if_pos q] at h
      refine ⟨(conjC (cc_u52 k y5 q.1) (conjC (cc_u8 k y5.1 (v_u52 k y5) (y2.getD y4.toNat T2.dflt).1 q.2) conj0)), ?_⟩
      refine ⟨fun c => ?_, fun c => ?_⟩
      ·rw [cond_t (show (((v_u8 k y5.1 (v_u52 k y5) (y2.getD y4.toNat T2.dflt).1).2 != (0 : Int) || decide ((v_u8 k y5.1 (v_u52 k y5) (y2.getD y4.toNat T2.dflt).1).1 < (0 : Int)))) = true from c)] at h
       cases h; exact ⟨rfl, rfl⟩
      ·rw [cond_f (show (((v_u8 k y5.1 (v_u52 k y5) (y2.getD y4.toNat T2.dflt).1).2 != (0 : Int) || decide ((v_u8 k y5.1 (v_u52 k y5) (y2.getD y4.toNat T2.dflt).1).1 < (0 : Int)))) = false from c)] at h
       exact ih.2 y0 ((i64.wrap (y1 + (v_u8 k y5.1 (v_u52 k y5) (y2.getD y4.toNat T2.dflt).1).1))) y2 y3 ((i64.wrap (y4 + 1))) y5 _ h
     ·rw [if_neg q] at h; cases h
    ·rw [if_neg q] at h; cases h
   ·rw [cond_f (show ((decide (y4 < y3))) = false from c)] at h
    refine ⟨fun c => ?_, fun c => ?_⟩
    ·rw [cond_t (show ((y1 != i64.wrap (y5.2.1 * y5.2.2))) = true from c)] at h
     cases h; exact ⟨rfl, rfl⟩
    ·rw [cond_f (show ((y1 != i64.wrap (y5.2.1 * y5.2.2))) = false from c)] at h
     refine ⟨fun c => ?_, fun c => ?_⟩
     ·rw [cond_t (show ((decide ((↑ (List.length y5.1) : Int) > (0 : Int)))) = true from c)] at h
      by_cases q : ((0 : Int) ≤ (0 : Int)) ∧ ((0 : Int) ≤ i64.wrap ((↑ (List.length y5.1) : Int) - (1 : Int))) ∧ (i64.wrap ((↑ (List.length y5.1) : Int) - (1 : Int)) ≤ (↑ (List.length y5.1) : Int))
      ·rw [if_pos q] at h
       refine ⟨(conjC q.1 (conjC q.2.1 (conjC q.2.2 conj0))), ?_⟩
       exact ih.1 ((i64.wrap (y0 + 1))) ((List.take ((i64.wrap ((↑ (List.length y5.1) : Int) - 1)).toNat - Int.toNat 0) (List.drop (Int.toNat 0) y5.1), (y5.2.1, y5.2.2))) _ h
      ·rw [if_neg q] at h; cases h
     ·rw [cond_f (show ((decide ((↑ (List.length y5.1) : Int) > (0 : Int)))) = false from c)] at h
      exact ih.1 ((i64.wrap (y0 + 1))) y5 _ h
theorem of_u47 (k : Nat) (x_ : T3.T) (r : R_u47) (h : f_u47 k x_ = some r) : CC Try.prog 4 (args_u47 x_) (bin_u47 x_) (res_u47 r) (bo_u47 x_ r) := by
 refine CC.of (fn := Try.f4) (by kernel_rfl) (by kernel_rfl) (by kernel_rfl) (by kernel_rfl) ?_
 unfold f_u47 at h
 refine Ev.tree hm (R := Rt) (K := (K_u47 k)) (l := []) (C := [(4, [.autoB [1, 3] false []]), (10, [.autoB [1, 3, 4, 42, 43, 44] false []])]) (E := [.autoB [2] true []]) (n := 1000) (T := .test ((v_u50 k x_)) (.need [CC Try.prog 6 (args_u50 x_) (bin_u50 x_) (res_u50 (v_u50 k x_)) (bo_u50 x_ (v_u50 k x_)), v_u50 k x_ = true] (.test (true) (.need [CC Try.prog 8 (args_u49 ) (bin_u49 ) (res_u49 (v_u49 k )) (bo_u49  (v_u49 k ))] (.leaf (res_u47 (v_u49 k)) (bo_u47 x_ (v_u49 k)))) (.cut 4 (placeAt Try.f4 4) ⟨mkS 88 [(1, .ptr 1000000 0 0), (3, .r (.v (.int .i64 0)))], [(1000000, 0, .var 24 (rvs (enc T3 x_)))]⟩))) (.need [CC Try.prog 6 (args_u50 x_) (bin_u50 x_) (res_u50 (v_u50 k x_)) (bo_u50 x_ (v_u50 k x_)), v_u50 k x_ = false, CC Try.prog 7 (args_u4 x_.1 x_.2.1 x_.2.2) (bin_u4 x_.1 x_.2.1 x_.2.2) (res_u4 (v_u4 k x_.1 x_.2.1 x_.2.2)) (bo_u4 x_.1 x_.2.1 x_.2.2 (v_u4 k x_.1 x_.2.1 x_.2.2))] (.test ((false || v_u4 k x_.1 x_.2.1 x_.2.2 != (0 : Int))) (.need [CC Try.prog 8 (args_u49 ) (bin_u49 ) (res_u49 (v_u49 k )) (bo_u49  (v_u49 k ))] (.leaf (res_u47 (v_u49 k)) (bo_u47 x_ (v_u49 k)))) (.cut 4 (placeAt Try.f4 4) (st_u47_4 0 x_))))) (by kernel_rfl) ?_
 refine ⟨fun c => ?_, fun c => ?_⟩
 ·rw [cond_t (show ((v_u50 k x_)) = true from c)] at h
  by_cases q : ((f_u50 k x_).isSome = true) ∧ (v_u50 k x_ = true)
  ·rw [if_pos q] at h
   refine ⟨(conjC (cc_u50 k x_ q.1) (conjC q.2 conj0)), ?_⟩
   refine ⟨fun c => ?_, fun c => ?_⟩
   rotate_left
   ·cases c
   by_cases q : ((f_u49 k ).isSome = true)
   ·rw [if_pos q] at h
    refine ⟨(conjC (cc_u49 k  q) conj0), ?_⟩
    cases h; exact ⟨rfl, rfl⟩
   ·rw [if_neg q] at h; cases h
  ·rw [if_neg q] at h; cases h
 ·rw [cond_f (show ((v_u50 k x_)) = false from c)] at h
  by_cases q : ((f_u50 k x_).isSome = true) ∧ (v_u50 k x_ = false) ∧ ((f_u4 k x_.1 x_.2.1 x_.2.2).isSome = true)
  ·rw [if_pos q] at h
   refine ⟨(conjC (cc_u50 k x_ q.1) (conjC q.2.1 (conjC (cc_u4 k x_.1 x_.2.1 x_.2.2 q.2.2) conj0))), ?_⟩
   refine ⟨fun c => ?_, fun c => ?_⟩
   ·rw [cond_t (show ((false || v_u4 k x_.1 x_.2.1 x_.2.2 != (0 : Int))) = true from c)] at h
    by_cases q : ((f_u49 k ).isSome = true)
    ·rw [if_pos q] at h
     refine ⟨(conjC (cc_u49 k  q) conj0), ?_⟩
     cases h; exact ⟨rfl, rfl⟩
    ·rw [if_neg q] at h; cases h
   ·rw [cond_f (show ((false || v_u4 k x_.1 x_.2.1 x_.2.2 != (0 : Int))) = false from c)] at h
    exact (ev_u47 k x_ k).1 0 x_ _ h
  ·rw [if_neg q] at h; cases h
end
end Go.AM
namespace Go.AM
open Go Go.Proofs Go.IntKind
set_option linter.unusedVariables false
noncomputable section
end
end Go.AM
namespace Go.AM
open Go Go.Proofs

theorem Reg.init {l : List Ro} {W L : Int} (h : Reg l W L) : Reg (l.take (l.length - 1)) W L := by
  obtain ⟨h1, h2, h3, h4⟩ := h
  refine ⟨h1, h2, by rw [List.length_take]; omega, ?_⟩
  cases h4 with
  | nil => exact .nil
  | snoc p r h f n c =>
    rw [List.length_append, List.length_singleton, Nat.add_sub_cancel, List.take_left]
    exact h
theorem sumI_snoc (f : Int → Int) (b : Int) : ∀ A, sumI f (A ++ [b]) = sumI f A + f b
  | [] => by
    show f b + 0 = 0 + f b
    omega
  | a :: t => by
    have := sumI_snoc f b t
    rw [List.cons_append, sumI, sumI]; omega
theorem areas_10 (k : Nat) (hk : 301000 ≤ k) (c : Int) (l : List Ro) (W L : Int) (reg : Reg l W L) (hl : l.length ≤ 30) (n : Nat) : ∀ (d i : Nat) (y : Int), i + d = l.length →
    y = (restE l W L 0).1 + sumI (fun a => (restE l W L a).1) ((l.take i).map (·.1)) → 0 ≤ y → y ≤ ((i : Int) + 1) * 206158430208000 →
    f_u47_10 k (n + d + 1) c y l (l.length : Int) (i : Int) (l, (W, L)) = f_u47_4 k n (IntKind.i64.wrap (c + 1)) (l.take (l.length - 1), (W, L)) := by
  intro d
  have hw := reg.w
  have hL := reg.len
  obtain ⟨p1, p2⟩ := prod_le (by omega : 0 ≤ W) (by omega) hL.1 hL.2
  induction d with
  | zero =>
    intro i y hi hy h0 h1
    rw [f_u47_10, decide_eq_false (by omega : ¬ (i : Int) < (l.length : Int)), cond_false]
    rw [List.take_of_length_le (by omega), rests_sum reg] at hy
    show (bif (y != IntKind.i64.wrap (W * L)) then some false else bif (decide ((l.length : Int) > 0)) then (if ((0 : Int) ≤ 0) ∧ ((0 : Int) ≤ IntKind.i64.wrap ((l.length : Int) - 1)) ∧ (IntKind.i64.wrap ((l.length : Int) - 1) ≤ (l.length : Int)) then f_u47_4 k n (IntKind.i64.wrap (c + 1)) (List.take ((IntKind.i64.wrap ((l.length : Int) - 1)).toNat - Int.toNat 0) (List.drop (Int.toNat 0) l), (W, L)) else none) else f_u47_4 k n (IntKind.i64.wrap (c + 1)) (l, (W, L))) = _
    rw [wrap_id (i := W * L) (by omega) (by omega), hy, bne_self_eq_false, cond_false]
    by_cases hn : l.length = 0
    · rw [decide_eq_false (by omega : ¬ (l.length : Int) > 0), cond_false, List.take_of_length_le (by omega)]
    · rw [decide_eq_true (by omega : (l.length : Int) > 0), cond_true, wrap_id (by omega) (by omega), if_pos ⟨by omega, by omega, by omega⟩, Int.toNat_zero, List.drop_zero, show ((l.length : Int) - 1).toNat - 0 = l.length - 1 by omega]
  | succ d ih =>
    intro i y hi hy h0 h1
    have hr : l.getD i T2.dflt ∈ l := getD_mem' _ _ _ (by omega)
    have ro := reg.ok.ro _ hr
    obtain ⟨a, b, e⟩ := rest_nonneg reg (.inr ⟨_, ro.look⟩)
    rw [show n + (d + 1) + 1 = (n + d + 1) + 1 from rfl, f_u47_10, decide_eq_true (by omega : (i : Int) < (l.length : Int)), cond_true, if_pos ⟨by omega, by omega⟩, Int.toNat_natCast, web_s, web_v, fam_Rest_s k (by omega), fam_Rest_v k (by omega), if_pos ⟨rfl, rfl⟩, wrapS i (by omega)]
    show (bif ((restE l W L (l.getD i T2.dflt).1).2 != 0 || decide ((restE l W L (l.getD i T2.dflt).1).1 < 0)) then some false else f_u47_10 k (n + d + 1) c (IntKind.i64.wrap (y + (restE l W L (l.getD i T2.dflt).1).1)) l (l.length : Int) ((i + 1 : Nat) : Int) (l, (W, L))) = _
    rw [e, decide_eq_false (by omega : ¬ (restE l W L (l.getD i T2.dflt).1).1 < 0), wrap_id (by omega) (by omega)]
    refine ih (i + 1) _ (by omega) ?_ (by omega) (by omega)
    rw [take_snoc l i T2.dflt (by omega), List.map_append, List.map_cons, List.map_nil, sumI_snoc, hy]
    omega
theorem areas_4 (k : Nat) (hk : 301000 ≤ k) (c : Int) (hc : c < 2) (l : List Ro) (W L : Int) (reg : Reg l W L) (hl : l.length ≤ 30) (n : Nat) :
    f_u47_4 k (n + l.length + 2) c (l, (W, L)) = f_u47_4 k n (IntKind.i64.wrap (c + 1)) (l.take (l.length - 1), (W, L)) := by
  obtain ⟨a, b, e⟩ := rest_nonneg reg (.inl rfl)
  have h := areas_10 k hk c l W L reg hl n l.length 0 (restE l W L 0).1 (by omega) (by rw [List.take_zero, List.map_nil, sumI]; omega) a (by omega)
  rw [show n + l.length + 2 = (n + l.length + 1) + 1 from rfl, f_u47_4, decide_eq_true hc, cond_true, web_s, web_v, fam_Rest_s k (by omega), fam_Rest_v k (by omega), if_pos ⟨rfl, rfl⟩]
  show (bif ((restE l W L 0).2 != 0 || decide ((restE l W L 0).1 < 0)) then some false else f_u47_10 k (n + l.length + 1) c (restE l W L 0).1 l (l.length : Int) 0 (l, (W, L))) = _
  rw [e, decide_eq_false (by omega : ¬ (restE l W L 0).1 < 0)]
  exact h
theorem great_len (k : Nat) (x : List Ro × Int × Int) (h : v_u50 k x = false) : x.1.length ≤ 30 := by
  unfold v_u50 f_u50 at h
  by_cases h2 : x.1.length > 30
  · rw [decide_eq_true (by omega : (x.1.length : Int) > 30)] at h; cases h
  · omega
theorem q_FamilyAreas (k : Nat) (hk : 301000 ≤ k) (x : List Ro × Int × Int) : f_u47 k x = some true := by
  have hg := great_s k (by omega) x
  have hl := great_len k x
  unfold f_u47
  rw [awake_s k hk, awake_v k hk, fam_Check_s k (by omega), fam_Check_v k (by omega)]
  cases hv : v_u50 k x
  · rw [cond_false, if_pos ⟨hg, rfl, rfl⟩, Bool.false_or]
    by_cases h : checkS x.1 x.2.1 x.2.2 = 0
    · have hl := hl hv
      have reg := checkS_zero.1 h
      rw [show (checkS x.1 x.2.1 x.2.2 != 0) = false by simp [h], cond_false]
      obtain ⟨l, W, L⟩ := x
      have reg : Reg l W L := reg
      have hl : l.length ≤ 30 := hl
      obtain ⟨n, hn⟩ : ∃ n, k = (n + 1 + (l.take (l.length - 1)).length + 2) + l.length + 2 := ⟨k - ((l.take (l.length - 1)).length + l.length + 5), by rw [List.length_take]; omega⟩
      have h1 := areas_4 k hk 0 (by omega) l W L reg hl (n + 1 + (l.take (l.length - 1)).length + 2)
      have h2 := areas_4 k hk 1 (by omega) (l.take (l.length - 1)) W L reg.init (by rw [List.length_take]; omega) (n + 1)
      have h3 : ∀ z, f_u47_4 k (n + 1) 2 z = some true := fun z => by
        rw [f_u47_4, awake_s k hk, awake_v k hk]; rfl
      rw [← hn] at h1
      exact h1.trans (h2.trans (h3 _))
    · rw [bne_iff_ne.2 h]; rfl
  · rw [cond_true, if_pos ⟨hg, rfl⟩]; rfl

end Go.AM
