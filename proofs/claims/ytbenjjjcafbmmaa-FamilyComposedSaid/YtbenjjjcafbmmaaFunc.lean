/- Contracts of the functions that the law reaches, and the plain law. -/
import Derived.Test.YtbenjjjcafbmmaaFunb
set_option linter.unusedVariables false
set_option linter.unusedSimpArgs false
set_option linter.unusedSectionVars false
namespace Go.AM
open Go Go.Proofs Go.IntKind
set_option linter.unusedVariables false
noncomputable section
abbrev R_u17 : Type := T1.T × Int
def res_u17 (r : R_u17) : AV := .tup [.agg (rvs (enc T1 r.1)), .r (.v (.int .i64 r.2))]
def bo_u17 (g_0 : Int) (g_1 : Int) (g_2 : List (T2).T) (g_3 : List ((I).T × (I).T)) (id_ : Int) (r : R_u17) : List (Nat × Blk) := [(0, .var 71 [.r (.v (.int .i64 g_0)), .r (.v (.int .i64 g_1)), .r (.ro T2 g_2), .own 1 0]), (0, .map false I I g_3)]
def args_u17 (g_0 : Int) (g_1 : Int) (g_2 : List (T2).T) (g_3 : List ((I).T × (I).T)) (id_ : Int) : List AV := [.ptr 0 0 0, .r (.v (.int .i64 id_))]
def bin_u17 (g_0 : Int) (g_1 : Int) (g_2 : List (T2).T) (g_3 : List ((I).T × (I).T)) (id_ : Int) : List Blk := [.var 71 [.r (.v (.int .i64 g_0)), .r (.v (.int .i64 g_1)), .r (.ro T2 g_2), .own 1 0], .map false I I g_3]
def w_u17 (g : Int → Int → List (T2).T → (List ((I).T × (I).T)) → Int → Option R_u17) (g_0 : Int) (g_1 : Int) (g_2 : List (T2).T) (g_3 : List ((I).T × (I).T)) (id_ : Int) : R_u17 := (g g_0 g_1 g_2 g_3 id_).getD ((T1).dflt, 0)
def f_u17 : Nat → Int → Int → List (T2).T → (List ((I).T × (I).T)) → Int → Option R_u17
 | 0, _, _, _, _, _ => none
 | k + 1, g_0, g_1, g_2, g_3, id_ =>
 bif (id_ == (0 : Int)) then
 bif (decide (g_1 > (0 : Int))) then
 some (((0, (g_0, (false, [(0, g_1, false)]))), 0))
 else
 some (((0, (g_0, (false, []))), 0))
 else
 if ((0 : Int) ≤ (mget I id_ g_3).getD (0 : Int)) ∧ ((mget I id_ g_3).getD (0 : Int) < (↑g_2.length : Int)) then
 if ((f_u17 k g_0 g_1 g_2 g_3 (g_2.getD (Int.toNat ((mget I id_ g_3).getD 0)) T2.dflt).2.1).isSome = true) then
 bif ((w_u17 (f_u17 k) g_0 g_1 g_2 g_3 (g_2.getD (Int.toNat ((mget I id_ g_3).getD (0 : Int))) T2.dflt).2.1).2 != (0 : Int)) then
 some (((0, (0, (false, []))), (w_u17 (f_u17 k) g_0 g_1 g_2 g_3 (g_2.getD (Int.toNat ((mget I id_ g_3).getD 0)) T2.dflt).2.1).2))
 else
 if ((f_u32 k (g_2.getD (Int.toNat ((mget I id_ g_3).getD 0)) T2.dflt).2.2.2.2.2 (w_u17 (f_u17 k) g_0 g_1 g_2 g_3 (g_2.getD (Int.toNat ((mget I id_ g_3).getD 0)) T2.dflt).2.1).1.2.2.2).isSome = true) then
 bif ((v_u32 k (g_2.getD (Int.toNat ((mget I id_ g_3).getD (0 : Int))) T2.dflt).2.2.2.2.2 (w_u17 (f_u17 k) g_0 g_1 g_2 g_3 (g_2.getD (Int.toNat ((mget I id_ g_3).getD (0 : Int))) T2.dflt).2.1).1.2.2.2).2 != (0 : Int)) then
 some (((0, (0, (false, []))), (v_u32 k (g_2.getD (Int.toNat ((mget I id_ g_3).getD 0)) T2.dflt).2.2.2.2.2 (w_u17 (f_u17 k) g_0 g_1 g_2 g_3 (g_2.getD (Int.toNat ((mget I id_ g_3).getD 0)) T2.dflt).2.1).1.2.2.2).2))
 else
 bif (w_u17 (f_u17 k) g_0 g_1 g_2 g_3 (g_2.getD (Int.toNat ((mget I id_ g_3).getD (0 : Int))) T2.dflt).2.1).1.2.2.1 then
 some (((i64.wrap (i64.wrap (i64.wrap ((w_u17 (f_u17 k) g_0 g_1 g_2 g_3 (g_2.getD (Int.toNat ((mget I id_ g_3).getD 0)) T2.dflt).2.1).1.1 + (w_u17 (f_u17 k) g_0 g_1 g_2 g_3 (g_2.getD (Int.toNat ((mget I id_ g_3).getD 0)) T2.dflt).2.1).1.2.1) - (g_2.getD (Int.toNat ((mget I id_ g_3).getD 0)) T2.dflt).2.2.1) - (g_2.getD (Int.toNat ((mget I id_ g_3).getD 0)) T2.dflt).2.2.2.1), ((g_2.getD (Int.toNat ((mget I id_ g_3).getD 0)) T2.dflt).2.2.2.1, (! (w_u17 (f_u17 k) g_0 g_1 g_2 g_3 (g_2.getD (Int.toNat ((mget I id_ g_3).getD 0)) T2.dflt).2.1).1.2.2.1 == (g_2.getD (Int.toNat ((mget I id_ g_3).getD 0)) T2.dflt).2.2.2.2.1, (v_u32 k (g_2.getD (Int.toNat ((mget I id_ g_3).getD 0)) T2.dflt).2.2.2.2.2 (w_u17 (f_u17 k) g_0 g_1 g_2 g_3 (g_2.getD (Int.toNat ((mget I id_ g_3).getD 0)) T2.dflt).2.1).1.2.2.2).1))), 0))
 else
 some (((i64.wrap ((w_u17 (f_u17 k) g_0 g_1 g_2 g_3 (g_2.getD (Int.toNat ((mget I id_ g_3).getD 0)) T2.dflt).2.1).1.1 + (g_2.getD (Int.toNat ((mget I id_ g_3).getD 0)) T2.dflt).2.2.1), ((g_2.getD (Int.toNat ((mget I id_ g_3).getD 0)) T2.dflt).2.2.2.1, (! (w_u17 (f_u17 k) g_0 g_1 g_2 g_3 (g_2.getD (Int.toNat ((mget I id_ g_3).getD 0)) T2.dflt).2.1).1.2.2.1 == (g_2.getD (Int.toNat ((mget I id_ g_3).getD 0)) T2.dflt).2.2.2.2.1, (v_u32 k (g_2.getD (Int.toNat ((mget I id_ g_3).getD 0)) T2.dflt).2.2.2.2.2 (w_u17 (f_u17 k) g_0 g_1 g_2 g_3 (g_2.getD (Int.toNat ((mget I id_ g_3).getD 0)) T2.dflt).2.1).1.2.2.2).1))), 0))
 else none
 else none
 else none
def v_u17 (k : Nat) (g_0 : Int) (g_1 : Int) (g_2 : List (T2).T) (g_3 : List ((I).T × (I).T)) (id_ : Int) : R_u17 := (f_u17 k g_0 g_1 g_2 g_3 id_).getD ((T1).dflt, 0)
def K_u17 (k : Nat) : Calld := ⟨fun g xs => match g with
 | 37 => match xs with
  | [_, _] => some [false, false]
  | _ => none
 | 23 => match xs with
  | [.ptr _ _ _, _] => some [true, false]
  | _ => none
 | _ => none, fun g xs bs => match g with
 | 37 => match xs, bs with
  | [.r (.ro tinner__ qinner_), .r (.ro touter__ qouter_)], [] => (castL tinner__ T0 qinner_).bind fun inner_ => (castL touter__ T0 qouter_).bind fun outer_ => some (.one (res_u32 (v_u32 k inner_ outer_), bo_u32 inner_ outer_ (v_u32 k inner_ outer_)))
  | _, _ => none
 | 23 => match xs, bs with
  | [.ptr 0 0 0, .r (.v (.int .i64 id_))], [.var 71 [.r (.v (.int .i64 g_0)), .r (.v (.int .i64 g_1)), .r (.ro tg_2_ qg_2), .own 1 0], .map false kg_3_ tg_3_ qg_3] => (castL tg_2_ T2 qg_2).bind fun g_2 => (castM kg_3_ tg_3_ I I qg_3).bind fun g_3 => some (.one (res_u17 (v_u17 k g_0 g_1 g_2 g_3 id_), bo_u17 g_0 g_1 g_2 g_3 id_ (v_u17 k g_0 g_1 g_2 g_3 id_)))
  | _, _ => none
 | _ => none⟩
theorem of_u17 : ∀ (k : Nat) (g_0 : Int) (g_1 : Int) (g_2 : List (T2).T) (g_3 : List ((I).T × (I).T)) (id_ : Int) (r : R_u17), f_u17 k g_0 g_1 g_2 g_3 id_ = some r → CC Try.prog 23 (args_u17 g_0 g_1 g_2 g_3 id_) (bin_u17 g_0 g_1 g_2 g_3 id_) (res_u17 r) (bo_u17 g_0 g_1 g_2 g_3 id_ r)
 | 0, g_0, g_1, g_2, g_3, id_, r, h => by simp [f_u17] at h
 | k + 1, g_0, g_1, g_2, g_3, id_, r, h => by
  have ih : ∀ (g_0 : Int) (g_1 : Int) (g_2 : List (T2).T) (g_3 : List ((I).T × (I).T)) (id_ : Int), (f_u17 k g_0 g_1 g_2 g_3 id_).isSome = true → CC Try.prog 23 (args_u17 g_0 g_1 g_2 g_3 id_) (bin_u17 g_0 g_1 g_2 g_3 id_) (res_u17 (v_u17 k g_0 g_1 g_2 g_3 id_)) (bo_u17 g_0 g_1 g_2 g_3 id_ (v_u17 k g_0 g_1 g_2 g_3 id_)) := fun g_0 g_1 g_2 g_3 id_ h => by
   cases e : f_u17 k g_0 g_1 g_2 g_3 id_ with
   | none => rw [e] at h; cases h
   | some r => rw [show v_u17 k g_0 g_1 g_2 g_3 id_ = r by simp [v_u17, e]]; exact of_u17 k g_0 g_1 g_2 g_3 id_ r e
  refine CC.of (fn := Try.f23) (by kernel_rfl) (by kernel_rfl) (by kernel_rfl) (by kernel_rfl) ?_
  rw [f_u17] at h
  refine Ev.tree hm (R := Rt) (K := (K_u17 k)) (l := []) (C := []) (E := [.frz 4 true T1, .autoB [4, 5] true []]) (n := 1000) (T := .test ((id_ == (0 : Int))) (.test ((decide (g_1 > (0 : Int)))) (.leaf (res_u17 (((0, (g_0, (false, [(0, g_1, false)]))), 0))) (bo_u17 g_0 g_1 g_2 g_3 id_ (((0, (g_0, (false, [(0, g_1, false)]))), 0)))) (.leaf (res_u17 (((0, (g_0, (false, []))), 0))) (bo_u17 g_0 g_1 g_2 g_3 id_ (((0, (g_0, (false, []))), 0))))) (.need [(0 : Int) ≤ (mget I id_ g_3).getD (0 : Int), (mget I id_ g_3).getD (0 : Int) < (↑g_2.length : Int)] (.need [CC Try.prog 23 (args_u17 g_0 g_1 g_2 g_3 (g_2.getD (Int.toNat ((mget I id_ g_3).getD 0)) T2.dflt).2.1) (bin_u17 g_0 g_1 g_2 g_3 (g_2.getD (Int.toNat ((mget I id_ g_3).getD 0)) T2.dflt).2.1) (res_u17 (v_u17 k g_0 g_1 g_2 g_3 (g_2.getD (Int.toNat ((mget I id_ g_3).getD 0)) T2.dflt).2.1)) (bo_u17 g_0 g_1 g_2 g_3 (g_2.getD (Int.toNat ((mget I id_ g_3).getD 0)) T2.dflt).2.1 (v_u17 k g_0 g_1 g_2 g_3 (g_2.getD (Int.toNat ((mget I id_ g_3).getD 0)) T2.dflt).2.1))] (.test (((v_u17 k g_0 g_1 g_2 g_3 (g_2.getD (Int.toNat ((mget I id_ g_3).getD (0 : Int))) T2.dflt).2.1).2 != (0 : Int))) (.leaf (res_u17 (((0, (0, (false, []))), (v_u17 k g_0 g_1 g_2 g_3 (g_2.getD (Int.toNat ((mget I id_ g_3).getD 0)) T2.dflt).2.1).2))) (bo_u17 g_0 g_1 g_2 g_3 id_ (((0, (0, (false, []))), (v_u17 k g_0 g_1 g_2 g_3 (g_2.getD (Int.toNat ((mget I id_ g_3).getD 0)) T2.dflt).2.1).2)))) (.need [CC Try.prog 37 (args_u32 (g_2.getD (Int.toNat ((mget I id_ g_3).getD 0)) T2.dflt).2.2.2.2.2 (v_u17 k g_0 g_1 g_2 g_3 (g_2.getD (Int.toNat ((mget I id_ g_3).getD 0)) T2.dflt).2.1).1.2.2.2) (bin_u32 (g_2.getD (Int.toNat ((mget I id_ g_3).getD 0)) T2.dflt).2.2.2.2.2 (v_u17 k g_0 g_1 g_2 g_3 (g_2.getD (Int.toNat ((mget I id_ g_3).getD 0)) T2.dflt).2.1).1.2.2.2) (res_u32 (v_u32 k (g_2.getD (Int.toNat ((mget I id_ g_3).getD 0)) T2.dflt).2.2.2.2.2 (v_u17 k g_0 g_1 g_2 g_3 (g_2.getD (Int.toNat ((mget I id_ g_3).getD 0)) T2.dflt).2.1).1.2.2.2)) (bo_u32 (g_2.getD (Int.toNat ((mget I id_ g_3).getD 0)) T2.dflt).2.2.2.2.2 (v_u17 k g_0 g_1 g_2 g_3 (g_2.getD (Int.toNat ((mget I id_ g_3).getD 0)) T2.dflt).2.1).1.2.2.2 (v_u32 k (g_2.getD (Int.toNat ((mget I id_ g_3).getD 0)) T2.dflt).2.2.2.2.2 (v_u17 k g_0 g_1 g_2 g_3 (g_2.getD (Int.toNat ((mget I id_ g_3).getD 0)) T2.dflt).2.1).1.2.2.2))] (.test (((v_u32 k (g_2.getD (Int.toNat ((mget I id_ g_3).getD (0 : Int))) T2.dflt).2.2.2.2.2 (v_u17 k g_0 g_1 g_2 g_3 (g_2.getD (Int.toNat ((mget I id_ g_3).getD (0 : Int))) T2.dflt).2.1).1.2.2.2).2 != (0 : Int))) (.leaf (res_u17 (((0, (0, (false, []))), (v_u32 k (g_2.getD (Int.toNat ((mget I id_ g_3).getD 0)) T2.dflt).2.2.2.2.2 (v_u17 k g_0 g_1 g_2 g_3 (g_2.getD (Int.toNat ((mget I id_ g_3).getD 0)) T2.dflt).2.1).1.2.2.2).2))) (bo_u17 g_0 g_1 g_2 g_3 id_ (((0, (0, (false, []))), (v_u32 k (g_2.getD (Int.toNat ((mget I id_ g_3).getD 0)) T2.dflt).2.2.2.2.2 (v_u17 k g_0 g_1 g_2 g_3 (g_2.getD (Int.toNat ((mget I id_ g_3).getD 0)) T2.dflt).2.1).1.2.2.2).2)))) (.test ((v_u17 k g_0 g_1 g_2 g_3 (g_2.getD (Int.toNat ((mget I id_ g_3).getD (0 : Int))) T2.dflt).2.1).1.2.2.1) (.leaf (res_u17 (((i64.wrap (i64.wrap (i64.wrap ((v_u17 k g_0 g_1 g_2 g_3 (g_2.getD (Int.toNat ((mget I id_ g_3).getD 0)) T2.dflt).2.1).1.1 + (v_u17 k g_0 g_1 g_2 g_3 (g_2.getD (Int.toNat ((mget I id_ g_3).getD 0)) T2.dflt).2.1).1.2.1) - (g_2.getD (Int.toNat ((mget I id_ g_3).getD 0)) T2.dflt).2.2.1) - (g_2.getD (Int.toNat ((mget I id_ g_3).getD 0)) T2.dflt).2.2.2.1), ((g_2.getD (Int.toNat ((mget I id_ g_3).getD 0)) T2.dflt).2.2.2.1, (! (v_u17 k g_0 g_1 g_2 g_3 (g_2.getD (Int.toNat ((mget I id_ g_3).getD 0)) T2.dflt).2.1).1.2.2.1 == (g_2.getD (Int.toNat ((mget I id_ g_3).getD 0)) T2.dflt).2.2.2.2.1, (v_u32 k (g_2.getD (Int.toNat ((mget I id_ g_3).getD 0)) T2.dflt).2.2.2.2.2 (v_u17 k g_0 g_1 g_2 g_3 (g_2.getD (Int.toNat ((mget I id_ g_3).getD 0)) T2.dflt).2.1).1.2.2.2).1))), 0))) (bo_u17 g_0 g_1 g_2 g_3 id_ (((i64.wrap (i64.wrap (i64.wrap ((v_u17 k g_0 g_1 g_2 g_3 (g_2.getD (Int.toNat ((mget I id_ g_3).getD 0)) T2.dflt).2.1).1.1 + (v_u17 k g_0 g_1 g_2 g_3 (g_2.getD (Int.toNat ((mget I id_ g_3).getD 0)) T2.dflt).2.1).1.2.1) - (g_2.getD (Int.toNat ((mget I id_ g_3).getD 0)) T2.dflt).2.2.1) - (g_2.getD (Int.toNat ((mget I id_ g_3).getD 0)) T2.dflt).2.2.2.1), ((g_2.getD (Int.toNat ((mget I id_ g_3).getD 0)) T2.dflt).2.2.2.1, (! (v_u17 k g_0 g_1 g_2 g_3 (g_2.getD (Int.toNat ((mget I id_ g_3).getD 0)) T2.dflt).2.1).1.2.2.1 == (g_2.getD (Int.toNat ((mget I id_ g_3).getD 0)) T2.dflt).2.2.2.2.1, (v_u32 k (g_2.getD (Int.toNat ((mget I id_ g_3).getD 0)) T2.dflt).2.2.2.2.2 (v_u17 k g_0 g_1 g_2 g_3 (g_2.getD (Int.toNat ((mget I id_ g_3).getD 0)) T2.dflt).2.1).1.2.2.2).1))), 0)))) (.leaf (res_u17 (((i64.wrap ((v_u17 k g_0 g_1 g_2 g_3 (g_2.getD (Int.toNat ((mget I id_ g_3).getD 0)) T2.dflt).2.1).1.1 + (g_2.getD (Int.toNat ((mget I id_ g_3).getD 0)) T2.dflt).2.2.1), ((g_2.getD (Int.toNat ((mget I id_ g_3).getD 0)) T2.dflt).2.2.2.1, (! (v_u17 k g_0 g_1 g_2 g_3 (g_2.getD (Int.toNat ((mget I id_ g_3).getD 0)) T2.dflt).2.1).1.2.2.1 == (g_2.getD (Int.toNat ((mget I id_ g_3).getD 0)) T2.dflt).2.2.2.2.1, (v_u32 k (g_2.getD (Int.toNat ((mget I id_ g_3).getD 0)) T2.dflt).2.2.2.2.2 (v_u17 k g_0 g_1 g_2 g_3 (g_2.getD (Int.toNat ((mget I id_ g_3).getD 0)) T2.dflt).2.1).1.2.2.2).1))), 0))) (bo_u17 g_0 g_1 g_2 g_3 id_ (((i64.wrap ((v_u17 k g_0 g_1 g_2 g_3 (g_2.getD (Int.toNat ((mget I id_ g_3).getD 0)) T2.dflt).2.1).1.1 + (g_2.getD (Int.toNat ((mget I id_ g_3).getD 0)) T2.dflt).2.2.1), ((g_2.getD (Int.toNat ((mget I id_ g_3).getD 0)) T2.dflt).2.2.2.1, (! (v_u17 k g_0 g_1 g_2 g_3 (g_2.getD (Int.toNat ((mget I id_ g_3).getD 0)) T2.dflt).2.1).1.2.2.1 == (g_2.getD (Int.toNat ((mget I id_ g_3).getD 0)) T2.dflt).2.2.2.2.1, (v_u32 k (g_2.getD (Int.toNat ((mget I id_ g_3).getD 0)) T2.dflt).2.2.2.2.2 (v_u17 k g_0 g_1 g_2 g_3 (g_2.getD (Int.toNat ((mget I id_ g_3).getD 0)) T2.dflt).2.1).1.2.2.2).1))), 0))))))))))) (by kernel_rfl) ?_
  refine ⟨fun c => ?_, fun c => ?_⟩
  ·rw [cond_t (show ((id_ == (0 : Int))) = true from c)] at h
   refine ⟨fun c => ?_, fun c => ?_⟩
   ·rw [cond_t (show ((decide (g_1 > (0 : Int)))) = true from c)] at h
    cases h; exact ⟨rfl, rfl⟩
   ·rw [cond_f (show ((decide (g_1 > (0 : Int)))) = false from c)] at h
    cases h; exact ⟨rfl, rfl⟩
  ·rw [cond_f (show ((id_ == (0 : Int))) = false from c)] at h
   by_cases q : ((0 : Int) ≤ (mget I id_ g_3).getD (0 : Int)) ∧ ((mget I id_ g_3).getD (0 : Int) < (↑g_2.length : Int))
   ·rw [if_pos q] at h
    refine ⟨(conjC q.1 (conjC q.2 conj0)), ?_⟩
    by_cases q : ((f_u17 k g_0 g_1 g_2 g_3 (g_2.getD (Int.toNat ((mget I id_ g_3).getD 0)) T2.dflt).2.1).isSome = true)
    ·rw [if_pos q] at h
     refine ⟨(conjC (ih g_0 g_1 g_2 g_3 (g_2.getD (Int.toNat ((mget I id_ g_3).getD 0)) T2.dflt).2.1 q) conj0), ?_⟩
     refine ⟨fun c => ?_, fun c => ?_⟩
     ·rw [cond_t (show (((w_u17 (f_u17 k) g_0 g_1 g_2 g_3 (g_2.getD (Int.toNat ((mget I id_ g_3).getD (0 : Int))) T2.dflt).2.1).2 != (0 : Int))) = true from c)] at h
      cases h; exact ⟨rfl, rfl⟩
     ·rw [cond_f (show (((w_u17 (f_u17 k) g_0 g_1 g_2 g_3 (g_2.getD (Int.toNat ((mget I id_ g_3).getD (0 : Int))) T2.dflt).2.1).2 != (0 : Int))) = false from c)] at h
      by_cases q : ((f_u32 k (g_2.getD (Int.toNat ((mget I id_ g_3).getD 0)) T2.dflt).2.2.2.2.2 (w_u17 (f_u17 k) g_0 g_1 g_2 g_3 (g_2.getD (Int.toNat ((mget I id_ g_3).getD 0)) T2.dflt).2.1).1.2.2.2).isSome = true)
      ·rw [if_pos q] at h
       refine ⟨(conjC (cc_u32 k (g_2.getD (Int.toNat ((mget I id_ g_3).getD 0)) T2.dflt).2.2.2.2.2 (v_u17 k g_0 g_1 g_2 g_3 (g_2.getD (Int.toNat ((mget I id_ g_3).getD 0)) T2.dflt).2.1).1.2.2.2 q) conj0), ?_⟩
       refine ⟨fun c => ?_, fun c => ?_⟩
       ·rw [cond_t (show (((v_u32 k (g_2.getD (Int.toNat ((mget I id_ g_3).getD (0 : Int))) T2.dflt).2.2.2.2.2 (w_u17 (f_u17 k) g_0 g_1 g_2 g_3 (g_2.getD (Int.toNat ((mget I id_ g_3).getD (0 : Int))) T2.dflt).2.1).1.2.2.2).2 != (0 : Int))) = true from c)] at h
        cases h; exact ⟨rfl, rfl⟩
       ·rw [cond_f (show (((v_u32 k (g_2.getD (Int.toNat ((mget I id_ g_3).getD (0 : Int))) T2.dflt).2.2.2.2.2 (w_u17 (f_u17 k) g_0 g_1 g_2 g_3 (g_2.getD (Int.toNat ((mget I id_ g_3).getD (0 : Int))) T2.dflt).2.1).1.2.2.2).2 != (0 : Int))) = false from c)] at h
        refine ⟨fun c => ?_, fun c => ?_⟩
        ·rw [cond_t (show ((w_u17 (f_u17 k) g_0 g_1 g_2 g_3 (g_2.getD (Int.toNat ((mget I id_ g_3).getD (0 : Int))) T2.dflt).2.1).1.2.2.1) = true from c)] at h
         cases h; exact ⟨rfl, rfl⟩
        ·rw [cond_f (show ((w_u17 (f_u17 k) g_0 g_1 g_2 g_3 (g_2.getD (Int.toNat ((mget I id_ g_3).getD (0 : Int))) T2.dflt).2.1).1.2.2.1) = false from c)] at h
         cases h; exact ⟨rfl, rfl⟩
      ·rw [if_neg q] at h; cases h
    ·rw [if_neg q] at h; cases h
   ·rw [if_neg q] at h; cases h
theorem cc_u17 (k : Nat) (g_0 : Int) (g_1 : Int) (g_2 : List (T2).T) (g_3 : List ((I).T × (I).T)) (id_ : Int) (h : (f_u17 k g_0 g_1 g_2 g_3 id_).isSome = true) : CC Try.prog 23 (args_u17 g_0 g_1 g_2 g_3 id_) (bin_u17 g_0 g_1 g_2 g_3 id_) (res_u17 (v_u17 k g_0 g_1 g_2 g_3 id_)) (bo_u17 g_0 g_1 g_2 g_3 id_ (v_u17 k g_0 g_1 g_2 g_3 id_)) := by
 cases e : f_u17 k g_0 g_1 g_2 g_3 id_ with
 | none => rw [e] at h; cases h
 | some r => rw [show v_u17 k g_0 g_1 g_2 g_3 id_ = r by simp [v_u17, e]]; exact of_u17 k g_0 g_1 g_2 g_3 id_ r e

end
end Go.AM
namespace Go.AM
open Go Go.Proofs Go.IntKind
set_option linter.unusedVariables false
noncomputable section
abbrev R_u5 : Type := T1.T × Int
def res_u5 (r : R_u5) : AV := .tup [.agg (rvs (enc T1 r.1)), .r (.v (.int .i64 r.2))]
def bo_u5 (l_ : List (T2).T) (web_ : T5.T) (id_ : Int) (r : R_u5) : List (Nat × Blk) := []
def args_u5 (l_ : List (T2).T) (web_ : T5.T) (id_ : Int) : List AV := [.r (.ro T2 l_), .agg (rvs (enc T5 web_)), .r (.v (.int .i64 id_))]
def bin_u5 (l_ : List (T2).T) (web_ : T5.T) (id_ : Int) : List Blk := []
def f_u5 (k : Nat) (l_ : List (T2).T) (web_ : T5.T) (id_ : Int) : Option R_u5 :=
 bif (Sum.isLeft (v_u13 k l_ web_ id_)) then
 if ((f_u13 k l_ web_ id_).isSome = true) then
 bif (vA_u13 k l_ web_ id_ != (0 : Int)) then
 some (((0, (0, (false, []))), vA_u13 k l_ web_ id_))
 else
 none
 else none
 else
 if ((f_u13 k l_ web_ id_).isSome = true) then
 bif ((vB_u13 k l_ web_ id_).1 != (0 : Int)) then
 some (((0, (0, (false, []))), (vB_u13 k l_ web_ id_).1))
 else
 if ((f_u17 k (vB_u13 k l_ web_ id_).2.1 (vB_u13 k l_ web_ id_).2.2.1 (vB_u13 k l_ web_ id_).2.2.2.1 (vB_u13 k l_ web_ id_).2.2.2.2 id_).isSome = true) then
 some (((v_u17 k (vB_u13 k l_ web_ id_).2.1 (vB_u13 k l_ web_ id_).2.2.1 (vB_u13 k l_ web_ id_).2.2.2.1 (vB_u13 k l_ web_ id_).2.2.2.2 id_).1, (v_u17 k (vB_u13 k l_ web_ id_).2.1 (vB_u13 k l_ web_ id_).2.2.1 (vB_u13 k l_ web_ id_).2.2.2.1 (vB_u13 k l_ web_ id_).2.2.2.2 id_).2))
 else none
 else none
def v_u5 (k : Nat) (l_ : List (T2).T) (web_ : T5.T) (id_ : Int) : R_u5 := (f_u5 k l_ web_ id_).getD ((T1).dflt, 0)
def K_u5 (k : Nat) : Calld := ⟨fun g xs => match g with
 | 19 => match xs with
  | [_, _, _] => some [false, false, false]
  | _ => none
 | 23 => match xs with
  | [.ptr _ _ _, _] => some [true, false]
  | _ => none
 | _ => none, fun g xs bs => match g with
 | 19 => match xs, bs with
  | [.r (.ro tl__ ql_), .agg qweb_, .r (.v (.int .i64 id_))], [] => (castL tl__ T2 ql_).bind fun l_ => (decS [] T5 qweb_).bind fun web_ => some (.two (v_u13 k l_ web_ id_).isLeft (resA_u13 (vA_u13 k l_ web_ id_), boA_u13 l_ web_ id_ (vA_u13 k l_ web_ id_)) (resB_u13 (vB_u13 k l_ web_ id_), boB_u13 l_ web_ id_ (vB_u13 k l_ web_ id_)))
  | _, _ => none
 | 23 => match xs, bs with
  | [.ptr 0 0 0, .r (.v (.int .i64 id_))], [.var 71 [.r (.v (.int .i64 g_0)), .r (.v (.int .i64 g_1)), .r (.ro tg_2_ qg_2), .own 1 0], .map false kg_3_ tg_3_ qg_3] => (castL tg_2_ T2 qg_2).bind fun g_2 => (castM kg_3_ tg_3_ I I qg_3).bind fun g_3 => some (.one (res_u17 (v_u17 k g_0 g_1 g_2 g_3 id_), bo_u17 g_0 g_1 g_2 g_3 id_ (v_u17 k g_0 g_1 g_2 g_3 id_)))
  | _, _ => none
 | _ => none⟩
theorem of_u5 (k : Nat) (l_ : List (T2).T) (web_ : T5.T) (id_ : Int) (r : R_u5) (h : f_u5 k l_ web_ id_ = some r) : CC Try.prog 11 (args_u5 l_ web_ id_) (bin_u5 l_ web_ id_) (res_u5 r) (bo_u5 l_ web_ id_ r) := by
 refine CC.of (fn := Try.f11) (by kernel_rfl) (by kernel_rfl) (by kernel_rfl) (by kernel_rfl) ?_
 unfold f_u5 at h
 refine Ev.tree hm (R := Rt) (K := (K_u5 k)) (l := []) (C := []) (E := [.frz 6 true T1, .autoB [6, 7] true []]) (n := 1000) (T := .test ((Sum.isLeft (v_u13 k l_ web_ id_))) (.need [CC Try.prog 19 (args_u13 l_ web_ id_) (bin_u13 l_ web_ id_) (resA_u13 (vA_u13 k l_ web_ id_)) (boA_u13 l_ web_ id_ (vA_u13 k l_ web_ id_))] (.test ((vA_u13 k l_ web_ id_ != (0 : Int))) (.leaf (res_u5 (((0, (0, (false, []))), vA_u13 k l_ web_ id_))) (bo_u5 l_ web_ id_ (((0, (0, (false, []))), vA_u13 k l_ web_ id_)))) (.stuck 2002))) (.need [CC Try.prog 19 (args_u13 l_ web_ id_) (bin_u13 l_ web_ id_) (resB_u13 (vB_u13 k l_ web_ id_)) (boB_u13 l_ web_ id_ (vB_u13 k l_ web_ id_))] (.test (((vB_u13 k l_ web_ id_).1 != (0 : Int))) (.leaf (res_u5 (((0, (0, (false, []))), (vB_u13 k l_ web_ id_).1))) (bo_u5 l_ web_ id_ (((0, (0, (false, []))), (vB_u13 k l_ web_ id_).1)))) (.need [CC Try.prog 23 (args_u17 (vB_u13 k l_ web_ id_).2.1 (vB_u13 k l_ web_ id_).2.2.1 (vB_u13 k l_ web_ id_).2.2.2.1 (vB_u13 k l_ web_ id_).2.2.2.2 id_) (bin_u17 (vB_u13 k l_ web_ id_).2.1 (vB_u13 k l_ web_ id_).2.2.1 (vB_u13 k l_ web_ id_).2.2.2.1 (vB_u13 k l_ web_ id_).2.2.2.2 id_) (res_u17 (v_u17 k (vB_u13 k l_ web_ id_).2.1 (vB_u13 k l_ web_ id_).2.2.1 (vB_u13 k l_ web_ id_).2.2.2.1 (vB_u13 k l_ web_ id_).2.2.2.2 id_)) (bo_u17 (vB_u13 k l_ web_ id_).2.1 (vB_u13 k l_ web_ id_).2.2.1 (vB_u13 k l_ web_ id_).2.2.2.1 (vB_u13 k l_ web_ id_).2.2.2.2 id_ (v_u17 k (vB_u13 k l_ web_ id_).2.1 (vB_u13 k l_ web_ id_).2.2.1 (vB_u13 k l_ web_ id_).2.2.2.1 (vB_u13 k l_ web_ id_).2.2.2.2 id_))] (.leaf (res_u5 (((v_u17 k (vB_u13 k l_ web_ id_).2.1 (vB_u13 k l_ web_ id_).2.2.1 (vB_u13 k l_ web_ id_).2.2.2.1 (vB_u13 k l_ web_ id_).2.2.2.2 id_).1, (v_u17 k (vB_u13 k l_ web_ id_).2.1 (vB_u13 k l_ web_ id_).2.2.1 (vB_u13 k l_ web_ id_).2.2.2.1 (vB_u13 k l_ web_ id_).2.2.2.2 id_).2))) (bo_u5 l_ web_ id_ (((v_u17 k (vB_u13 k l_ web_ id_).2.1 (vB_u13 k l_ web_ id_).2.2.1 (vB_u13 k l_ web_ id_).2.2.2.1 (vB_u13 k l_ web_ id_).2.2.2.2 id_).1, (v_u17 k (vB_u13 k l_ web_ id_).2.1 (vB_u13 k l_ web_ id_).2.2.1 (vB_u13 k l_ web_ id_).2.2.2.1 (vB_u13 k l_ web_ id_).2.2.2.2 id_).2)))))))) (by kernel_rfl) ?_
 refine ⟨fun c => ?_, fun c => ?_⟩
 ·rw [cond_t (show ((Sum.isLeft (v_u13 k l_ web_ id_))) = true from c)] at h
  by_cases q : ((f_u13 k l_ web_ id_).isSome = true)
  ·rw [if_pos q] at h
   refine ⟨(conjC (ccA_u13 k l_ web_ id_ q (by assumption)) conj0), ?_⟩
   refine ⟨fun c => ?_, fun c => ?_⟩
   ·rw [cond_t (show ((vA_u13 k l_ web_ id_ != (0 : Int))) = true from c)] at h
    cases h; exact ⟨rfl, rfl⟩
   ·rw [cond_f (show ((vA_u13 k l_ web_ id_ != (0 : Int))) = false from c)] at h
    cases h
  ·rw [if_neg q] at h; cases h
 ·rw [cond_f (show ((Sum.isLeft (v_u13 k l_ web_ id_))) = false from c)] at h
  by_cases q : ((f_u13 k l_ web_ id_).isSome = true)
  ·rw [if_pos q] at h
   refine ⟨(conjC (ccB_u13 k l_ web_ id_ q (by assumption)) conj0), ?_⟩
   refine ⟨fun c => ?_, fun c => ?_⟩
   ·rw [cond_t (show (((vB_u13 k l_ web_ id_).1 != (0 : Int))) = true from c)] at h
    cases h; exact ⟨rfl, rfl⟩
   ·rw [cond_f (show (((vB_u13 k l_ web_ id_).1 != (0 : Int))) = false from c)] at h
    by_cases q : ((f_u17 k (vB_u13 k l_ web_ id_).2.1 (vB_u13 k l_ web_ id_).2.2.1 (vB_u13 k l_ web_ id_).2.2.2.1 (vB_u13 k l_ web_ id_).2.2.2.2 id_).isSome = true)
    ·rw [if_pos q] at h
     refine ⟨(conjC (cc_u17 k (vB_u13 k l_ web_ id_).2.1 (vB_u13 k l_ web_ id_).2.2.1 (vB_u13 k l_ web_ id_).2.2.2.1 (vB_u13 k l_ web_ id_).2.2.2.2 id_ q) conj0), ?_⟩
     cases h; exact ⟨rfl, rfl⟩
    ·rw [if_neg q] at h; cases h
  ·rw [if_neg q] at h; cases h
theorem cc_u5 (k : Nat) (l_ : List (T2).T) (web_ : T5.T) (id_ : Int) (h : (f_u5 k l_ web_ id_).isSome = true) : CC Try.prog 11 (args_u5 l_ web_ id_) (bin_u5 l_ web_ id_) (res_u5 (v_u5 k l_ web_ id_)) (bo_u5 l_ web_ id_ (v_u5 k l_ web_ id_)) := by
 cases e : f_u5 k l_ web_ id_ with
 | none => rw [e] at h; cases h
 | some r => rw [show v_u5 k l_ web_ id_ = r by simp [v_u5, e]]; exact of_u5 k l_ web_ id_ r e

end
end Go.AM
namespace Go.AM
open Go Go.Proofs Go.IntKind
set_option linter.unusedVariables false
noncomputable section
abbrev R_u18 : Type := Int
def res_u18 (r : R_u18) : AV := .fn ((Fn.func 40)) [] [.ptr 2 0 0, .ptr 3 0 0]
def bo_u18 (g_0 : Int) (g_1 : Int) (g_2 : List (T2).T) (g_3 : List ((I).T × (I).T)) (id_ : Int) (r : R_u18) : List (Nat × Blk) := [(0, .var 71 [.r (.v (.int .i64 g_0)), .r (.v (.int .i64 g_1)), .r (.ro T2 g_2), .own 1 0]), (0, .map false I I g_3), (0, .var 52 [.ptr 0 0 0]), (0, .var 3 [.r (.v (.int .i64 r))])]
def args_u18 (g_0 : Int) (g_1 : Int) (g_2 : List (T2).T) (g_3 : List ((I).T × (I).T)) (id_ : Int) : List AV := [.ptr 0 0 0, .r (.v (.int .i64 id_))]
def bin_u18 (g_0 : Int) (g_1 : Int) (g_2 : List (T2).T) (g_3 : List ((I).T × (I).T)) (id_ : Int) : List Blk := [.var 71 [.r (.v (.int .i64 g_0)), .r (.v (.int .i64 g_1)), .r (.ro T2 g_2), .own 1 0], .map false I I g_3]
def f_u18 (k : Nat) (g_0 : Int) (g_1 : Int) (g_2 : List (T2).T) (g_3 : List ((I).T × (I).T)) (id_ : Int) : Option R_u18 :=
 some id_
def v_u18 (k : Nat) (g_0 : Int) (g_1 : Int) (g_2 : List (T2).T) (g_3 : List ((I).T × (I).T)) (id_ : Int) : R_u18 := (f_u18 k g_0 g_1 g_2 g_3 id_).getD 0
def K_u18 (k : Nat) : Calld := ⟨fun g xs => match g with
 | _ => none, fun g xs bs => match g with
 | _ => none⟩
theorem of_u18 (k : Nat) (g_0 : Int) (g_1 : Int) (g_2 : List (T2).T) (g_3 : List ((I).T × (I).T)) (id_ : Int) (r : R_u18) (h : f_u18 k g_0 g_1 g_2 g_3 id_ = some r) : CC Try.prog 29 (args_u18 g_0 g_1 g_2 g_3 id_) (bin_u18 g_0 g_1 g_2 g_3 id_) (res_u18 r) (bo_u18 g_0 g_1 g_2 g_3 id_ r) := by
 refine CC.of (fn := Try.f29) (by kernel_rfl) (by kernel_rfl) (by kernel_rfl) (by kernel_rfl) ?_
 unfold f_u18 at h
 refine Ev.tree hm (R := Rt) (K := (K_u18 k)) (l := []) (C := []) (E := [.autoB [4] true []]) (n := 1000) (T := .leaf (res_u18 id_) (bo_u18 g_0 g_1 g_2 g_3 id_ id_)) (by kernel_rfl) ?_
 cases h; exact ⟨rfl, rfl⟩
theorem cc_u18 (k : Nat) (g_0 : Int) (g_1 : Int) (g_2 : List (T2).T) (g_3 : List ((I).T × (I).T)) (id_ : Int) (h : (f_u18 k g_0 g_1 g_2 g_3 id_).isSome = true) : CC Try.prog 29 (args_u18 g_0 g_1 g_2 g_3 id_) (bin_u18 g_0 g_1 g_2 g_3 id_) (res_u18 (v_u18 k g_0 g_1 g_2 g_3 id_)) (bo_u18 g_0 g_1 g_2 g_3 id_ (v_u18 k g_0 g_1 g_2 g_3 id_)) := by
 cases e : f_u18 k g_0 g_1 g_2 g_3 id_ with
 | none => rw [e] at h; cases h
 | some r => rw [show v_u18 k g_0 g_1 g_2 g_3 id_ = r by simp [v_u18, e]]; exact of_u18 k g_0 g_1 g_2 g_3 id_ r e

end
end Go.AM
namespace Go.AM
open Go Go.Proofs Go.IntKind
set_option linter.unusedVariables false
noncomputable section
abbrev R_u1 : Type := Int
def res_u1 (r : R_u1) : AV := .r (.v (.bool true))
def bo_u1 (s800 : Int) (s801 : Int) (s802 : List (T2).T) (s803 : List ((I).T × (I).T)) (s120 : Int) (x0 : T2.T) (r : R_u1) : List (Nat × Blk) := [(0, .loop .ready none (rcAt Try.f14 7 [46]) (mkS 52 [(8, .ptr 1 0 0), (12, .ptr 4 0 0)])), (0, .var 52 [.ptr 2 0 0]), (0, .var 71 [.r (.v (.int .i64 s800)), .r (.v (.int .i64 s801)), .r (.ro T2 s802), .own 3 0]), (0, .map false I I s803), (0, .var 3 [.r (.v (.int .i64 r))])]
def args_u1 (s800 : Int) (s801 : Int) (s802 : List (T2).T) (s803 : List ((I).T × (I).T)) (s120 : Int) (x0 : T2.T) : List AV := [.agg (rvs (enc T2 x0))]
def bin_u1 (s800 : Int) (s801 : Int) (s802 : List (T2).T) (s803 : List ((I).T × (I).T)) (s120 : Int) (x0 : T2.T) : List Blk := [.loop .ready none (rcAt Try.f14 7 [46]) (mkS 52 [(8, .ptr 1 0 0), (12, .ptr 4 0 0)]), .var 52 [.ptr 2 0 0], .var 71 [.r (.v (.int .i64 s800)), .r (.v (.int .i64 s801)), .r (.ro T2 s802), .own 3 0], .map false I I s803, .var 3 [.r (.v (.int .i64 s120))]]
def f_u1 (k : Nat) (s800 : Int) (s801 : Int) (s802 : List (T2).T) (s803 : List ((I).T × (I).T)) (s120 : Int) (x0 : T2.T) : Option R_u1 :=
 if ((f_u26 k s800 s801 s802 s803 x0.1).isSome = true) then
 some (i64.wrap (s120 - i64.wrap ((v_u26 k s800 s801 s802 s803 x0.1).1 * (v_u26 k s800 s801 s802 s803 x0.1).2)))
 else none
def v_u1 (k : Nat) (s800 : Int) (s801 : Int) (s802 : List (T2).T) (s803 : List ((I).T × (I).T)) (s120 : Int) (x0 : T2.T) : R_u1 := (f_u1 k s800 s801 s802 s803 s120 x0).getD 0
def K_u1 (k : Nat) : Calld := ⟨fun g xs => match g with
 | 28 => match xs with
  | [.ptr _ _ _, _] => some [true, false]
  | _ => none
 | _ => none, fun g xs bs => match g with
 | 28 => match xs, bs with
  | [.ptr 0 0 0, .r (.v (.int .i64 id_))], [.var 71 [.r (.v (.int .i64 g_0)), .r (.v (.int .i64 g_1)), .r (.ro tg_2_ qg_2), .own 1 0], .map false kg_3_ tg_3_ qg_3] => (castL tg_2_ T2 qg_2).bind fun g_2 => (castM kg_3_ tg_3_ I I qg_3).bind fun g_3 => some (.one (res_u26 (v_u26 k g_0 g_1 g_2 g_3 id_), bo_u26 g_0 g_1 g_2 g_3 id_ (v_u26 k g_0 g_1 g_2 g_3 id_)))
  | _, _ => none
 | _ => none⟩
theorem of_u1 (k : Nat) (s800 : Int) (s801 : Int) (s802 : List (T2).T) (s803 : List ((I).T × (I).T)) (s120 : Int) (x0 : T2.T) (r : R_u1) (h : f_u1 k s800 s801 s802 s803 s120 x0 = some r) : YC Try.prog (args_u1 s800 s801 s802 s803 s120 x0) (bin_u1 s800 s801 s802 s803 s120 x0) (res_u1 r) (bo_u1 s800 s801 s802 s803 s120 x0 r) := by
 refine YC.of (by rw [show bin_u1 s800 s801 s802 s803 s120 x0 = _ from rfl]; exact List.cons_ne_nil _ _) (by kernel_rfl) ?_
 unfold f_u1 at h
 refine Ev.tree hm (R := Rt) (K := (K_u1 k)) (l := []) (C := []) (E := [.autoB [0] true []]) (n := 1000) (T := .need [CC Try.prog 28 (args_u26 s800 s801 s802 s803 x0.1) (bin_u26 s800 s801 s802 s803 x0.1) (res_u26 (v_u26 k s800 s801 s802 s803 x0.1)) (bo_u26 s800 s801 s802 s803 x0.1 (v_u26 k s800 s801 s802 s803 x0.1))] (.leaf (res_u1 (i64.wrap (s120 - i64.wrap ((v_u26 k s800 s801 s802 s803 x0.1).1 * (v_u26 k s800 s801 s802 s803 x0.1).2)))) (bo_u1 s800 s801 s802 s803 s120 x0 (i64.wrap (s120 - i64.wrap ((v_u26 k s800 s801 s802 s803 x0.1).1 * (v_u26 k s800 s801 s802 s803 x0.1).2)))))) (by kernel_rfl) ?_
 by_cases q : ((f_u26 k s800 s801 s802 s803 x0.1).isSome = true)
 ·rw [if_pos q] at h
  refine ⟨(conjC (cc_u26 k s800 s801 s802 s803 x0.1 q) conj0), ?_⟩
  cases h; exact ⟨rfl, rfl⟩
 ·rw [if_neg q] at h; cases h
theorem cc_u1 (k : Nat) (s800 : Int) (s801 : Int) (s802 : List (T2).T) (s803 : List ((I).T × (I).T)) (s120 : Int) (x0 : T2.T) (h : (f_u1 k s800 s801 s802 s803 s120 x0).isSome = true) : YC Try.prog (args_u1 s800 s801 s802 s803 s120 x0) (bin_u1 s800 s801 s802 s803 s120 x0) (res_u1 (v_u1 k s800 s801 s802 s803 s120 x0)) (bo_u1 s800 s801 s802 s803 s120 x0 (v_u1 k s800 s801 s802 s803 s120 x0)) := by
 cases e : f_u1 k s800 s801 s802 s803 s120 x0 with
 | none => rw [e] at h; cases h
 | some r => rw [show v_u1 k s800 s801 s802 s803 s120 x0 = r by simp [v_u1, e]]; exact of_u1 k s800 s801 s802 s803 s120 x0 r e

end
end Go.AM
namespace Go.AM
open Go Go.Proofs Go.IntKind
set_option linter.unusedVariables false
noncomputable section
abbrev R_u20 : Type := Int
def res_u20 (r : R_u20) : AV := .tup []
def bo_u20 (yield_800 : Int) (yield_801 : Int) (yield_802 : List (T2).T) (yield_803 : List ((I).T × (I).T)) (yield_120 : Int) (z10 : Int) (r : R_u20) : List (Nat × Blk) := [(0, .loop .ready none (rcAt Try.f14 7 [46]) (mkS 52 [(8, .ptr 1 0 0), (12, .ptr 4 0 0)])), (0, .var 52 [.ptr 2 0 0]), (0, .var 71 [.r (.v (.int .i64 yield_800)), .r (.v (.int .i64 yield_801)), .r (.ro T2 yield_802), .own 3 0]), (0, .map false I I yield_803), (0, .var 3 [.r (.v (.int .i64 r))]), (0, .var 52 [.ptr 2 0 0]), (0, .var 3 [.r (.v (.int .i64 z10))])]
def args_u20 (yield_800 : Int) (yield_801 : Int) (yield_802 : List (T2).T) (yield_803 : List ((I).T × (I).T)) (yield_120 : Int) (z10 : Int) : List AV := [.own 0 0, .ptr 5 0 0, .ptr 6 0 0]
def bin_u20 (yield_800 : Int) (yield_801 : Int) (yield_802 : List (T2).T) (yield_803 : List ((I).T × (I).T)) (yield_120 : Int) (z10 : Int) : List Blk := [.loop .ready none (rcAt Try.f14 7 [46]) (mkS 52 [(8, .ptr 1 0 0), (12, .ptr 4 0 0)]), .var 52 [.ptr 2 0 0], .var 71 [.r (.v (.int .i64 yield_800)), .r (.v (.int .i64 yield_801)), .r (.ro T2 yield_802), .own 3 0], .map false I I yield_803, .var 3 [.r (.v (.int .i64 yield_120))], .var 52 [.ptr 2 0 0], .var 3 [.r (.v (.int .i64 z10))]]
def st_u20_1 (yield_800 : Int) (yield_801 : Int) (yield_802 : List (T2).T) (yield_803 : List ((I).T × (I).T)) (yield_120 : Int) (z10 : Int) (y0 : List (T2).T) (y1 : Int) (y2 : Int) (y3 : Int) : St := ⟨mkS 26 [(0, .own 0 0), (2, .ptr 6 0 0), (9, .r (.ro T2 y0)), (10, .r (.v (.int .i64 y1))), (11, .r (.v (.int .i64 y2)))], [(0, 0, .loop .ready none (rcAt Try.f14 7 [46]) (mkS 52 [(8, .ptr 1 0 0), (12, .ptr 4 0 0)])), (1, 0, .var 52 [.ptr 2 0 0]), (2, 0, .var 71 [.r (.v (.int .i64 yield_800)), .r (.v (.int .i64 yield_801)), .r (.ro T2 yield_802), .own 3 0]), (3, 0, .map false I I yield_803), (4, 0, .var 3 [.r (.v (.int .i64 y3))]), (5, 0, .var 52 [.ptr 2 0 0]), (6, 0, .var 3 [.r (.v (.int .i64 z10))])]⟩
def f_u20_1 (k : Nat) (yield_800 : Int) (yield_801 : Int) (yield_802 : List (T2).T) (yield_803 : List ((I).T × (I).T)) (yield_120 : Int) (z10 : Int) : Nat → List (T2).T → Int → Int → Int → Option R_u20
 | 0, _, _, _, _ => none
 | j + 1, y0, y1, y2, y3 =>
 bif (decide (y2 < y1)) then
 if (0 ≤ y2) ∧ (y2 < (↑y0.length : Int)) then
 bif ((y0.getD y2.toNat T2.dflt).2.1 == z10) then
 if (((y0.getD y2.toNat T2.dflt).2.1 == z10) = true) ∧ ((f_u1 k yield_800 yield_801 yield_802 yield_803 y3 (y0.getD y2.toNat T2.dflt)).isSome = true) then
 f_u20_1 k yield_800 yield_801 yield_802 yield_803 yield_120 z10 j y0 y1 ((i64.wrap (y2 + 1))) ((v_u1 k yield_800 yield_801 yield_802 yield_803 y3 (y0.getD y2.toNat T2.dflt)))
 else none
 else
 if (((y0.getD y2.toNat T2.dflt).2.1 == z10) = false) then
 f_u20_1 k yield_800 yield_801 yield_802 yield_803 yield_120 z10 j y0 y1 ((i64.wrap (y2 + 1))) y3
 else none
 else none
 else
 some y3
def f_u20 (k : Nat) (yield_800 : Int) (yield_801 : Int) (yield_802 : List (T2).T) (yield_803 : List ((I).T × (I).T)) (yield_120 : Int) (z10 : Int) : Option R_u20 :=
 f_u20_1 k yield_800 yield_801 yield_802 yield_803 yield_120 z10 k yield_802 ((↑yield_802.length : Int)) 0 yield_120
def v_u20 (k : Nat) (yield_800 : Int) (yield_801 : Int) (yield_802 : List (T2).T) (yield_803 : List ((I).T × (I).T)) (yield_120 : Int) (z10 : Int) : R_u20 := (f_u20 k yield_800 yield_801 yield_802 yield_803 yield_120 z10).getD 0
def K_u20 (k : Nat) : Calld := ⟨fun g xs => match g with
 | 1000000 => match xs with
  | [_] => some [false]
  | _ => none
 | _ => none, fun g xs bs => match g with
 | 1000000 => match xs, bs with
  | [.agg qx0], [.loop _ _ _ qs, .var 52 [.ptr 2 0 0], .var 71 [.r (.v (.int .i64 s800)), .r (.v (.int .i64 s801)), .r (.ro ts802_ qs802), .own 3 0], .map false ks803_ ts803_ qs803, .var 3 [.r (.v (.int .i64 s120))]] => (decS [] T2 qx0).bind fun x0 => (castL ts802_ T2 qs802).bind fun s802 => (castM ks803_ ts803_ I I qs803).bind fun s803 => some (.one (res_u1 (v_u1 k s800 s801 s802 s803 s120 x0), bo_u1 s800 s801 s802 s803 s120 x0 (v_u1 k s800 s801 s802 s803 s120 x0)))
  | _, _ => none
 | _ => none⟩
theorem ev_u20 (k : Nat) (yield_800 : Int) (yield_801 : Int) (yield_802 : List (T2).T) (yield_803 : List ((I).T × (I).T)) (yield_120 : Int) (z10 : Int) : ∀ j, (∀ (y0 : List (T2).T) (y1 : Int) (y2 : Int) (y3 : Int) (r : R_u20), f_u20_1 k yield_800 yield_801 yield_802 yield_803 yield_120 z10 j y0 y1 y2 y3 = some r → Ev Try.prog Try.f40 7 (placeAt Try.f40 1) (st_u20_1 yield_800 yield_801 yield_802 yield_803 yield_120 z10 y0 y1 y2 y3) (res_u20 r) (bo_u20 yield_800 yield_801 yield_802 yield_803 yield_120 z10 r))
 | 0 => by
  intros; rename_i h; simp [f_u20_1] at h
 | j + 1 => by
  have ih := ev_u20 k yield_800 yield_801 yield_802 yield_803 yield_120 z10 j
  ·intro y0 y1 y2 y3 r h
   rw [f_u20_1] at h
   refine Ev.tree hm (R := Rt) (K := (K_u20 k)) (l := []) (C := [(1, [.autoB [0, 2, 9, 10, 11] false []])]) (E := [.autoB [] true []]) (n := 1000) (T := .test ((decide (y2 < y1))) (.need [0 ≤ y2, y2 < (↑y0.length : Int)] (.test (((y0.getD y2.toNat T2.dflt).2.1 == z10)) (.need [((y0.getD y2.toNat T2.dflt).2.1 == z10) = true, YC Try.prog (args_u1 yield_800 yield_801 yield_802 yield_803 y3 (y0.getD y2.toNat T2.dflt)) (bin_u1 yield_800 yield_801 yield_802 yield_803 y3 (y0.getD y2.toNat T2.dflt)) (res_u1 (v_u1 k yield_800 yield_801 yield_802 yield_803 y3 (y0.getD y2.toNat T2.dflt))) (bo_u1 yield_800 yield_801 yield_802 yield_803 y3 (y0.getD y2.toNat T2.dflt) (v_u1 k yield_800 yield_801 yield_802 yield_803 y3 (y0.getD y2.toNat T2.dflt)))] (.test (false) (.leaf (.tup []) [(0, .loop .ready none (rcAt Try.f14 7 [46]) (mkS 52 [(8, .ptr 1 0 0), (12, .ptr 4 0 0)])), (0, .var 52 [.ptr 2 0 0]), (0, .var 71 [.r (.v (.int .i64 yield_800)), .r (.v (.int .i64 yield_801)), .r (.ro T2 yield_802), .own 3 0]), (0, .map false I I yield_803), (0, .var 3 [.r (.v (.int .i64 ((v_u1 k yield_800 yield_801 yield_802 yield_803 y3 (y0.getD y2.toNat T2.dflt)))))]), (0, .var 52 [.ptr 2 0 0]), (0, .var 3 [.r (.v (.int .i64 z10))])]) (.cut 1 (placeAt Try.f40 1) (st_u20_1 yield_800 yield_801 yield_802 yield_803 yield_120 z10 y0 y1 ((i64.wrap (y2 + 1))) ((v_u1 k yield_800 yield_801 yield_802 yield_803 y3 (y0.getD y2.toNat T2.dflt))))))) (.need [((y0.getD y2.toNat T2.dflt).2.1 == z10) = false] (.test (false) (.leaf (.tup []) [(0, .loop .ready none (rcAt Try.f14 7 [46]) (mkS 52 [(8, .ptr 1 0 0), (12, .ptr 4 0 0)])), (0, .var 52 [.ptr 2 0 0]), (0, .var 71 [.r (.v (.int .i64 yield_800)), .r (.v (.int .i64 yield_801)), .r (.ro T2 yield_802), .own 3 0]), (0, .map false I I yield_803), (0, .var 3 [.r (.v (.int .i64 y3))]), (0, .var 52 [.ptr 2 0 0]), (0, .var 3 [.r (.v (.int .i64 z10))])]) (.cut 1 (placeAt Try.f40 1) (st_u20_1 yield_800 yield_801 yield_802 yield_803 yield_120 z10 y0 y1 ((i64.wrap (y2 + 1))) y3)))))) (.leaf (res_u20 y3) (bo_u20 yield_800 yield_801 yield_802 yield_803 yield_120 z10 y3))) (by kernel_rfl) ?_
   refine ⟨fun c => ?_, fun c => ?_⟩
   ·rw [cond_t (show ((decide (y2 < y1))) = true from c)] at h
    by_cases q : (0 ≤ y2) ∧ (y2 < (↑y0.length : Int))
    ·rw [if_pos q] at h
     refine ⟨(conjC q.1 (conjC q.2 conj0)), ?_⟩
     refine ⟨fun c => ?_, fun c => ?_⟩
     ·rw [cond_t (show (((y0.getD y2.toNat T2.dflt).2.1 == z10)) = true from c)] at h
      by_cases q : (((y0.getD y2.toNat T2.dflt).2.1 == z10) = true) ∧ ((f_u1 k yield_800 yield_801 yield_802 yield_803 y3 (y0.getD y2.toNat T2.dflt)).isSome = true)
      ·rw [if_pos q] at h
       refine ⟨(conjC q.1 (conjC (cc_u1 k yield_800 yield_801 yield_802 yield_803 y3 (y0.getD y2.toNat T2.dflt) q.2) conj0)), ?_⟩
       refine ⟨fun c => ?_, fun c => ?_⟩
       ·cases c
       exact ih y0 y1 ((i64.wrap (y2 + 1))) ((v_u1 k yield_800 yield_801 yield_802 yield_803 y3 (y0.getD y2.toNat T2.dflt))) _ h
      ·rw [if_neg q] at h; cases h
     ·rw [cond_f (show (((y0.getD y2.toNat T2.dflt).2.1 == z10)) = false from c)] at h
      by_cases q : (((y0.getD y2.toNat T2.dflt).2.1 == z10) = false)
      ·rw [if_pos q] at h
       refine ⟨(conjC q conj0), ?_⟩
       refine ⟨fun c => ?_, fun c => ?_⟩
       ·cases c
       exact ih y0 y1 ((i64.wrap (y2 + 1))) y3 _ h
      ·rw [if_neg q] at h; cases h
    ·rw [if_neg q] at h; cases h
   ·rw [cond_f (show ((decide (y2 < y1))) = false from c)] at h
    cases h; exact ⟨rfl, rfl⟩
theorem of_u20 (k : Nat) (yield_800 : Int) (yield_801 : Int) (yield_802 : List (T2).T) (yield_803 : List ((I).T × (I).T)) (yield_120 : Int) (z10 : Int) (r : R_u20) (h : f_u20 k yield_800 yield_801 yield_802 yield_803 yield_120 z10 = some r) : CC Try.prog 40 (args_u20 yield_800 yield_801 yield_802 yield_803 yield_120 z10) (bin_u20 yield_800 yield_801 yield_802 yield_803 yield_120 z10) (res_u20 r) (bo_u20 yield_800 yield_801 yield_802 yield_803 yield_120 z10 r) := by
 refine CC.of (fn := Try.f40) (by kernel_rfl) (by kernel_rfl) (by kernel_rfl) (by kernel_rfl) ?_
 unfold f_u20 at h
 refine Ev.tree hm (R := Rt) (K := (K_u20 k)) (l := []) (C := [(1, [.autoB [0, 2, 9, 10, 11] false []])]) (E := [.autoB [] true []]) (n := 1000) (T := .cut 1 (placeAt Try.f40 1) (st_u20_1 yield_800 yield_801 yield_802 yield_803 yield_120 z10 yield_802 ((↑yield_802.length : Int)) 0 yield_120)) (by kernel_rfl) ?_
 exact (ev_u20 k yield_800 yield_801 yield_802 yield_803 yield_120 z10 k) yield_802 ((↑yield_802.length : Int)) 0 yield_120 _ h
theorem cc_u20 (k : Nat) (yield_800 : Int) (yield_801 : Int) (yield_802 : List (T2).T) (yield_803 : List ((I).T × (I).T)) (yield_120 : Int) (z10 : Int) (h : (f_u20 k yield_800 yield_801 yield_802 yield_803 yield_120 z10).isSome = true) : CC Try.prog 40 (args_u20 yield_800 yield_801 yield_802 yield_803 yield_120 z10) (bin_u20 yield_800 yield_801 yield_802 yield_803 yield_120 z10) (res_u20 (v_u20 k yield_800 yield_801 yield_802 yield_803 yield_120 z10)) (bo_u20 yield_800 yield_801 yield_802 yield_803 yield_120 z10 (v_u20 k yield_800 yield_801 yield_802 yield_803 yield_120 z10)) := by
 cases e : f_u20 k yield_800 yield_801 yield_802 yield_803 yield_120 z10 with
 | none => rw [e] at h; cases h
 | some r => rw [show v_u20 k yield_800 yield_801 yield_802 yield_803 yield_120 z10 = r by simp [v_u20, e]]; exact of_u20 k yield_800 yield_801 yield_802 yield_803 yield_120 z10 r e

end
end Go.AM
namespace Go.AM
open Go Go.Proofs Go.IntKind
set_option linter.unusedVariables false
noncomputable section
abbrev R_u8 : Type := Int × Int
def res_u8 (r : R_u8) : AV := .tup [.r (.v (.int .i64 r.1)), .r (.v (.int .i64 r.2))]
def bo_u8 (l_ : List (T2).T) (web_ : T5.T) (id_ : Int) (r : R_u8) : List (Nat × Blk) := []
def args_u8 (l_ : List (T2).T) (web_ : T5.T) (id_ : Int) : List AV := [.r (.ro T2 l_), .agg (rvs (enc T5 web_)), .r (.v (.int .i64 id_))]
def bin_u8 (l_ : List (T2).T) (web_ : T5.T) (id_ : Int) : List Blk := []
def f_u8 (k : Nat) (l_ : List (T2).T) (web_ : T5.T) (id_ : Int) : Option R_u8 :=
 bif (Sum.isLeft (v_u13 k l_ web_ id_)) then
 if ((f_u13 k l_ web_ id_).isSome = true) then
 bif (vA_u13 k l_ web_ id_ != (0 : Int)) then
 some ((0, vA_u13 k l_ web_ id_))
 else
 none
 else none
 else
 if ((f_u13 k l_ web_ id_).isSome = true) then
 bif ((vB_u13 k l_ web_ id_).1 != (0 : Int)) then
 some ((0, (vB_u13 k l_ web_ id_).1))
 else
 if ((f_u26 k (vB_u13 k l_ web_ id_).2.1 (vB_u13 k l_ web_ id_).2.2.1 (vB_u13 k l_ web_ id_).2.2.2.1 (vB_u13 k l_ web_ id_).2.2.2.2 id_).isSome = true) then
 if ((f_u18 k (vB_u13 k l_ web_ id_).2.1 (vB_u13 k l_ web_ id_).2.2.1 (vB_u13 k l_ web_ id_).2.2.2.1 (vB_u13 k l_ web_ id_).2.2.2.2 id_).isSome = true) then
 if ((f_u20 k (vB_u13 k l_ web_ id_).2.1 (vB_u13 k l_ web_ id_).2.2.1 (vB_u13 k l_ web_ id_).2.2.2.1 (vB_u13 k l_ web_ id_).2.2.2.2 (i64.wrap ((v_u26 k (vB_u13 k l_ web_ id_).2.1 (vB_u13 k l_ web_ id_).2.2.1 (vB_u13 k l_ web_ id_).2.2.2.1 (vB_u13 k l_ web_ id_).2.2.2.2 id_).1 * (v_u26 k (vB_u13 k l_ web_ id_).2.1 (vB_u13 k l_ web_ id_).2.2.1 (vB_u13 k l_ web_ id_).2.2.2.1 (vB_u13 k l_ web_ id_).2.2.2.2 id_).2)) (v_u18 k (vB_u13 k l_ web_ id_).2.1 (vB_u13 k l_ web_ id_).2.2.1 (vB_u13 k l_ web_ id_).2.2.2.1 (vB_u13 k l_ web_ id_).2.2.2.2 id_)).isSome = true) then
 some ((v_u20 k (vB_u13 k l_ web_ id_).2.1 (vB_u13 k l_ web_ id_).2.2.1 (vB_u13 k l_ web_ id_).2.2.2.1 (vB_u13 k l_ web_ id_).2.2.2.2 (i64.wrap ((v_u26 k (vB_u13 k l_ web_ id_).2.1 (vB_u13 k l_ web_ id_).2.2.1 (vB_u13 k l_ web_ id_).2.2.2.1 (vB_u13 k l_ web_ id_).2.2.2.2 id_).1 * (v_u26 k (vB_u13 k l_ web_ id_).2.1 (vB_u13 k l_ web_ id_).2.2.1 (vB_u13 k l_ web_ id_).2.2.2.1 (vB_u13 k l_ web_ id_).2.2.2.2 id_).2)) (v_u18 k (vB_u13 k l_ web_ id_).2.1 (vB_u13 k l_ web_ id_).2.2.1 (vB_u13 k l_ web_ id_).2.2.2.1 (vB_u13 k l_ web_ id_).2.2.2.2 id_), 0))
 else none
 else none
 else none
 else none
def v_u8 (k : Nat) (l_ : List (T2).T) (web_ : T5.T) (id_ : Int) : R_u8 := (f_u8 k l_ web_ id_).getD (0, 0)
def K_u8 (k : Nat) : Calld := ⟨fun g xs => match g with
 | 28 => match xs with
  | [.ptr _ _ _, _] => some [true, false]
  | _ => none
 | 19 => match xs with
  | [_, _, _] => some [false, false, false]
  | _ => none
 | 29 => match xs with
  | [.ptr _ _ _, _] => some [true, false]
  | _ => none
 | 40 => match xs with
  | [.own _ _, .ptr _ _ _, .ptr _ _ _] => some [true, true, true]
  | _ => none
 | _ => none, fun g xs bs => match g with
 | 28 => match xs, bs with
  | [.ptr 0 0 0, .r (.v (.int .i64 id_))], [.var 71 [.r (.v (.int .i64 g_0)), .r (.v (.int .i64 g_1)), .r (.ro tg_2_ qg_2), .own 1 0], .map false kg_3_ tg_3_ qg_3] => (castL tg_2_ T2 qg_2).bind fun g_2 => (castM kg_3_ tg_3_ I I qg_3).bind fun g_3 => some (.one (res_u26 (v_u26 k g_0 g_1 g_2 g_3 id_), bo_u26 g_0 g_1 g_2 g_3 id_ (v_u26 k g_0 g_1 g_2 g_3 id_)))
  | _, _ => none
 | 19 => match xs, bs with
  | [.r (.ro tl__ ql_), .agg qweb_, .r (.v (.int .i64 id_))], [] => (castL tl__ T2 ql_).bind fun l_ => (decS [] T5 qweb_).bind fun web_ => some (.two (v_u13 k l_ web_ id_).isLeft (resA_u13 (vA_u13 k l_ web_ id_), boA_u13 l_ web_ id_ (vA_u13 k l_ web_ id_)) (resB_u13 (vB_u13 k l_ web_ id_), boB_u13 l_ web_ id_ (vB_u13 k l_ web_ id_)))
  | _, _ => none
 | 29 => match xs, bs with
  | [.ptr 0 0 0, .r (.v (.int .i64 id_))], [.var 71 [.r (.v (.int .i64 g_0)), .r (.v (.int .i64 g_1)), .r (.ro tg_2_ qg_2), .own 1 0], .map false kg_3_ tg_3_ qg_3] => (castL tg_2_ T2 qg_2).bind fun g_2 => (castM kg_3_ tg_3_ I I qg_3).bind fun g_3 => some (.one (res_u18 (v_u18 k g_0 g_1 g_2 g_3 id_), bo_u18 g_0 g_1 g_2 g_3 id_ (v_u18 k g_0 g_1 g_2 g_3 id_)))
  | _, _ => none
 | 40 => match xs, bs with
  | [.own 0 0, .ptr 5 0 0, .ptr 6 0 0], [.loop _ _ _ qyield_, .var 52 [.ptr 2 0 0], .var 71 [.r (.v (.int .i64 yield_800)), .r (.v (.int .i64 yield_801)), .r (.ro tyield_802_ qyield_802), .own 3 0], .map false kyield_803_ tyield_803_ qyield_803, .var 3 [.r (.v (.int .i64 yield_120))], .var 52 [.ptr 2 0 0], .var 3 [.r (.v (.int .i64 z10))]] => (castL tyield_802_ T2 qyield_802).bind fun yield_802 => (castM kyield_803_ tyield_803_ I I qyield_803).bind fun yield_803 => some (.one (res_u20 (v_u20 k yield_800 yield_801 yield_802 yield_803 yield_120 z10), bo_u20 yield_800 yield_801 yield_802 yield_803 yield_120 z10 (v_u20 k yield_800 yield_801 yield_802 yield_803 yield_120 z10)))
  | _, _ => none
 | _ => none⟩
theorem of_u8 (k : Nat) (l_ : List (T2).T) (web_ : T5.T) (id_ : Int) (r : R_u8) (h : f_u8 k l_ web_ id_ = some r) : CC Try.prog 14 (args_u8 l_ web_ id_) (bin_u8 l_ web_ id_) (res_u8 r) (bo_u8 l_ web_ id_ r) := by
 refine CC.of (fn := Try.f14) (by kernel_rfl) (by kernel_rfl) (by kernel_rfl) (by kernel_rfl) ?_
 unfold f_u8 at h
 refine Ev.tree hm (R := Rt) (K := (K_u8 k)) (l := []) (C := []) (E := [.autoB [6, 7] true []]) (n := 1000) (T := .test ((Sum.isLeft (v_u13 k l_ web_ id_))) (.need [CC Try.prog 19 (args_u13 l_ web_ id_) (bin_u13 l_ web_ id_) (resA_u13 (vA_u13 k l_ web_ id_)) (boA_u13 l_ web_ id_ (vA_u13 k l_ web_ id_))] (.test ((vA_u13 k l_ web_ id_ != (0 : Int))) (.leaf (res_u8 ((0, vA_u13 k l_ web_ id_))) (bo_u8 l_ web_ id_ ((0, vA_u13 k l_ web_ id_)))) (.stuck 2002))) (.need [CC Try.prog 19 (args_u13 l_ web_ id_) (bin_u13 l_ web_ id_) (resB_u13 (vB_u13 k l_ web_ id_)) (boB_u13 l_ web_ id_ (vB_u13 k l_ web_ id_))] (.test (((vB_u13 k l_ web_ id_).1 != (0 : Int))) (.leaf (res_u8 ((0, (vB_u13 k l_ web_ id_).1))) (bo_u8 l_ web_ id_ ((0, (vB_u13 k l_ web_ id_).1)))) (.need [CC Try.prog 28 (args_u26 (vB_u13 k l_ web_ id_).2.1 (vB_u13 k l_ web_ id_).2.2.1 (vB_u13 k l_ web_ id_).2.2.2.1 (vB_u13 k l_ web_ id_).2.2.2.2 id_) (bin_u26 (vB_u13 k l_ web_ id_).2.1 (vB_u13 k l_ web_ id_).2.2.1 (vB_u13 k l_ web_ id_).2.2.2.1 (vB_u13 k l_ web_ id_).2.2.2.2 id_) (res_u26 (v_u26 k (vB_u13 k l_ web_ id_).2.1 (vB_u13 k l_ web_ id_).2.2.1 (vB_u13 k l_ web_ id_).2.2.2.1 (vB_u13 k l_ web_ id_).2.2.2.2 id_)) (bo_u26 (vB_u13 k l_ web_ id_).2.1 (vB_u13 k l_ web_ id_).2.2.1 (vB_u13 k l_ web_ id_).2.2.2.1 (vB_u13 k l_ web_ id_).2.2.2.2 id_ (v_u26 k (vB_u13 k l_ web_ id_).2.1 (vB_u13 k l_ web_ id_).2.2.1 (vB_u13 k l_ web_ id_).2.2.2.1 (vB_u13 k l_ web_ id_).2.2.2.2 id_))] (.need [CC Try.prog 29 (args_u18 (vB_u13 k l_ web_ id_).2.1 (vB_u13 k l_ web_ id_).2.2.1 (vB_u13 k l_ web_ id_).2.2.2.1 (vB_u13 k l_ web_ id_).2.2.2.2 id_) (bin_u18 (vB_u13 k l_ web_ id_).2.1 (vB_u13 k l_ web_ id_).2.2.1 (vB_u13 k l_ web_ id_).2.2.2.1 (vB_u13 k l_ web_ id_).2.2.2.2 id_) (res_u18 (v_u18 k (vB_u13 k l_ web_ id_).2.1 (vB_u13 k l_ web_ id_).2.2.1 (vB_u13 k l_ web_ id_).2.2.2.1 (vB_u13 k l_ web_ id_).2.2.2.2 id_)) (bo_u18 (vB_u13 k l_ web_ id_).2.1 (vB_u13 k l_ web_ id_).2.2.1 (vB_u13 k l_ web_ id_).2.2.2.1 (vB_u13 k l_ web_ id_).2.2.2.2 id_ (v_u18 k (vB_u13 k l_ web_ id_).2.1 (vB_u13 k l_ web_ id_).2.2.1 (vB_u13 k l_ web_ id_).2.2.2.1 (vB_u13 k l_ web_ id_).2.2.2.2 id_))] (.need [CC Try.prog 40 (args_u20 (vB_u13 k l_ web_ id_).2.1 (vB_u13 k l_ web_ id_).2.2.1 (vB_u13 k l_ web_ id_).2.2.2.1 (vB_u13 k l_ web_ id_).2.2.2.2 (i64.wrap ((v_u26 k (vB_u13 k l_ web_ id_).2.1 (vB_u13 k l_ web_ id_).2.2.1 (vB_u13 k l_ web_ id_).2.2.2.1 (vB_u13 k l_ web_ id_).2.2.2.2 id_).1 * (v_u26 k (vB_u13 k l_ web_ id_).2.1 (vB_u13 k l_ web_ id_).2.2.1 (vB_u13 k l_ web_ id_).2.2.2.1 (vB_u13 k l_ web_ id_).2.2.2.2 id_).2)) (v_u18 k (vB_u13 k l_ web_ id_).2.1 (vB_u13 k l_ web_ id_).2.2.1 (vB_u13 k l_ web_ id_).2.2.2.1 (vB_u13 k l_ web_ id_).2.2.2.2 id_)) (bin_u20 (vB_u13 k l_ web_ id_).2.1 (vB_u13 k l_ web_ id_).2.2.1 (vB_u13 k l_ web_ id_).2.2.2.1 (vB_u13 k l_ web_ id_).2.2.2.2 (i64.wrap ((v_u26 k (vB_u13 k l_ web_ id_).2.1 (vB_u13 k l_ web_ id_).2.2.1 (vB_u13 k l_ web_ id_).2.2.2.1 (vB_u13 k l_ web_ id_).2.2.2.2 id_).1 * (v_u26 k (vB_u13 k l_ web_ id_).2.1 (vB_u13 k l_ web_ id_).2.2.1 (vB_u13 k l_ web_ id_).2.2.2.1 (vB_u13 k l_ web_ id_).2.2.2.2 id_).2)) (v_u18 k (vB_u13 k l_ web_ id_).2.1 (vB_u13 k l_ web_ id_).2.2.1 (vB_u13 k l_ web_ id_).2.2.2.1 (vB_u13 k l_ web_ id_).2.2.2.2 id_)) (res_u20 (v_u20 k (vB_u13 k l_ web_ id_).2.1 (vB_u13 k l_ web_ id_).2.2.1 (vB_u13 k l_ web_ id_).2.2.2.1 (vB_u13 k l_ web_ id_).2.2.2.2 (i64.wrap ((v_u26 k (vB_u13 k l_ web_ id_).2.1 (vB_u13 k l_ web_ id_).2.2.1 (vB_u13 k l_ web_ id_).2.2.2.1 (vB_u13 k l_ web_ id_).2.2.2.2 id_).1 * (v_u26 k (vB_u13 k l_ web_ id_).2.1 (vB_u13 k l_ web_ id_).2.2.1 (vB_u13 k l_ web_ id_).2.2.2.1 (vB_u13 k l_ web_ id_).2.2.2.2 id_).2)) (v_u18 k (vB_u13 k l_ web_ id_).2.1 (vB_u13 k l_ web_ id_).2.2.1 (vB_u13 k l_ web_ id_).2.2.2.1 (vB_u13 k l_ web_ id_).2.2.2.2 id_))) (bo_u20 (vB_u13 k l_ web_ id_).2.1 (vB_u13 k l_ web_ id_).2.2.1 (vB_u13 k l_ web_ id_).2.2.2.1 (vB_u13 k l_ web_ id_).2.2.2.2 (i64.wrap ((v_u26 k (vB_u13 k l_ web_ id_).2.1 (vB_u13 k l_ web_ id_).2.2.1 (vB_u13 k l_ web_ id_).2.2.2.1 (vB_u13 k l_ web_ id_).2.2.2.2 id_).1 * (v_u26 k (vB_u13 k l_ web_ id_).2.1 (vB_u13 k l_ web_ id_).2.2.1 (vB_u13 k l_ web_ id_).2.2.2.1 (vB_u13 k l_ web_ id_).2.2.2.2 id_).2)) (v_u18 k (vB_u13 k l_ web_ id_).2.1 (vB_u13 k l_ web_ id_).2.2.1 (vB_u13 k l_ web_ id_).2.2.2.1 (vB_u13 k l_ web_ id_).2.2.2.2 id_) (v_u20 k (vB_u13 k l_ web_ id_).2.1 (vB_u13 k l_ web_ id_).2.2.1 (vB_u13 k l_ web_ id_).2.2.2.1 (vB_u13 k l_ web_ id_).2.2.2.2 (i64.wrap ((v_u26 k (vB_u13 k l_ web_ id_).2.1 (vB_u13 k l_ web_ id_).2.2.1 (vB_u13 k l_ web_ id_).2.2.2.1 (vB_u13 k l_ web_ id_).2.2.2.2 id_).1 * (v_u26 k (vB_u13 k l_ web_ id_).2.1 (vB_u13 k l_ web_ id_).2.2.1 (vB_u13 k l_ web_ id_).2.2.2.1 (vB_u13 k l_ web_ id_).2.2.2.2 id_).2)) (v_u18 k (vB_u13 k l_ web_ id_).2.1 (vB_u13 k l_ web_ id_).2.2.1 (vB_u13 k l_ web_ id_).2.2.2.1 (vB_u13 k l_ web_ id_).2.2.2.2 id_)))] (.leaf (res_u8 ((v_u20 k (vB_u13 k l_ web_ id_).2.1 (vB_u13 k l_ web_ id_).2.2.1 (vB_u13 k l_ web_ id_).2.2.2.1 (vB_u13 k l_ web_ id_).2.2.2.2 (i64.wrap ((v_u26 k (vB_u13 k l_ web_ id_).2.1 (vB_u13 k l_ web_ id_).2.2.1 (vB_u13 k l_ web_ id_).2.2.2.1 (vB_u13 k l_ web_ id_).2.2.2.2 id_).1 * (v_u26 k (vB_u13 k l_ web_ id_).2.1 (vB_u13 k l_ web_ id_).2.2.1 (vB_u13 k l_ web_ id_).2.2.2.1 (vB_u13 k l_ web_ id_).2.2.2.2 id_).2)) (v_u18 k (vB_u13 k l_ web_ id_).2.1 (vB_u13 k l_ web_ id_).2.2.1 (vB_u13 k l_ web_ id_).2.2.2.1 (vB_u13 k l_ web_ id_).2.2.2.2 id_), 0))) (bo_u8 l_ web_ id_ ((v_u20 k (vB_u13 k l_ web_ id_).2.1 (vB_u13 k l_ web_ id_).2.2.1 (vB_u13 k l_ web_ id_).2.2.2.1 (vB_u13 k l_ web_ id_).2.2.2.2 (i64.wrap ((v_u26 k (vB_u13 k l_ web_ id_).2.1 (vB_u13 k l_ web_ id_).2.2.1 (vB_u13 k l_ web_ id_).2.2.2.1 (vB_u13 k l_ web_ id_).2.2.2.2 id_).1 * (v_u26 k (vB_u13 k l_ web_ id_).2.1 (vB_u13 k l_ web_ id_).2.2.1 (vB_u13 k l_ web_ id_).2.2.2.1 (vB_u13 k l_ web_ id_).2.2.2.2 id_).2)) (v_u18 k (vB_u13 k l_ web_ id_).2.1 (vB_u13 k l_ web_ id_).2.2.1 (vB_u13 k l_ web_ id_).2.2.2.1 (vB_u13 k l_ web_ id_).2.2.2.2 id_), 0)))))))))) (by kernel_rfl) ?_
 refine ⟨fun c => ?_, fun c => ?_⟩
 ·rw [cond_t (show ((Sum.isLeft (v_u13 k l_ web_ id_))) = true from c)] at h
  by_cases q : ((f_u13 k l_ web_ id_).isSome = true)
  ·rw [if_pos q] at h
   refine ⟨(conjC (ccA_u13 k l_ web_ id_ q (by assumption)) conj0), ?_⟩
   refine ⟨fun c => ?_, fun c => ?_⟩
   ·rw [cond_t (show ((vA_u13 k l_ web_ id_ != (0 : Int))) = true from c)] at h
    cases h; exact ⟨rfl, rfl⟩
   ·rw [cond_f (show ((vA_u13 k l_ web_ id_ != (0 : Int))) = false from c)] at h
    cases h
  ·rw [if_neg q] at h; cases h
 ·rw [cond_f (show ((Sum.isLeft (v_u13 k l_ web_ id_))) = false from c)] at h
  by_cases q : ((f_u13 k l_ web_ id_).isSome = true)
  ·rw [if_pos q] at h
   refine ⟨(conjC (ccB_u13 k l_ web_ id_ q (by assumption)) conj0), ?_⟩
   refine ⟨fun c => ?_, fun c => ?_⟩
   ·rw [cond_t (show (((vB_u13 k l_ web_ id_).1 != (0 : Int))) = true from c)] at h
    cases h; exact ⟨rfl, rfl⟩
   ·rw [cond_f (show (((vB_u13 k l_ web_ id_).1 != (0 : Int))) = false from c)] at h
    by_cases q : ((f_u26 k (vB_u13 k l_ web_ id_).2.1 (vB_u13 k l_ web_ id_).2.2.1 (vB_u13 k l_ web_ id_).2.2.2.1 (vB_u13 k l_ web_ id_).2.2.2.2 id_).isSome = true)
    ·rw [if_pos q] at h
     refine ⟨(conjC (cc_u26 k (vB_u13 k l_ web_ id_).2.1 (vB_u13 k l_ web_ id_).2.2.1 (vB_u13 k l_ web_ id_).2.2.2.1 (vB_u13 k l_ web_ id_).2.2.2.2 id_ q) conj0), ?_⟩
     by_cases q : ((f_u18 k (vB_u13 k l_ web_ id_).2.1 (vB_u13 k l_ web_ id_).2.2.1 (vB_u13 k l_ web_ id_).2.2.2.1 (vB_u13 k l_ web_ id_).2.2.2.2 id_).isSome = true)
     ·rw [if_pos q] at h
      refine ⟨(conjC (cc_u18 k (vB_u13 k l_ web_ id_).2.1 (vB_u13 k l_ web_ id_).2.2.1 (vB_u13 k l_ web_ id_).2.2.2.1 (vB_u13 k l_ web_ id_).2.2.2.2 id_ q) conj0), ?_⟩
      by_cases q : ((f_u20 k (vB_u13 k l_ web_ id_).2.1 (vB_u13 k l_ web_ id_).2.2.1 (vB_u13 k l_ web_ id_).2.2.2.1 (vB_u13 k l_ web_ id_).2.2.2.2 (i64.wrap ((v_u26 k (vB_u13 k l_ web_ id_).2.1 (vB_u13 k l_ web_ id_).2.2.1 (vB_u13 k l_ web_ id_).2.2.2.1 (vB_u13 k l_ web_ id_).2.2.2.2 id_).1 * (v_u26 k (vB_u13 k l_ web_ id_).2.1 (vB_u13 k l_ web_ id_).2.2.1 (vB_u13 k l_ web_ id_).2.2.2.1 (vB_u13 k l_ web_ id_).2.2.2.2 id_).2)) (v_u18 k (vB_u13 k l_ web_ id_).2.1 (vB_u13 k l_ web_ id_).2.2.1 (vB_u13 k l_ web_ id_).2.2.2.1 (vB_u13 k l_ web_ id_).2.2.2.2 id_)).isSome = true)
      ·rw [if_pos q] at h
       refine ⟨(conjC (cc_u20 k (vB_u13 k l_ web_ id_).2.1 (vB_u13 k l_ web_ id_).2.2.1 (vB_u13 k l_ web_ id_).2.2.2.1 (vB_u13 k l_ web_ id_).2.2.2.2 (i64.wrap ((v_u26 k (vB_u13 k l_ web_ id_).2.1 (vB_u13 k l_ web_ id_).2.2.1 (vB_u13 k l_ web_ id_).2.2.2.1 (vB_u13 k l_ web_ id_).2.2.2.2 id_).1 * (v_u26 k (vB_u13 k l_ web_ id_).2.1 (vB_u13 k l_ web_ id_).2.2.1 (vB_u13 k l_ web_ id_).2.2.2.1 (vB_u13 k l_ web_ id_).2.2.2.2 id_).2)) (v_u18 k (vB_u13 k l_ web_ id_).2.1 (vB_u13 k l_ web_ id_).2.2.1 (vB_u13 k l_ web_ id_).2.2.2.1 (vB_u13 k l_ web_ id_).2.2.2.2 id_) q) conj0), ?_⟩
       cases h; exact ⟨rfl, rfl⟩
      ·rw [if_neg q] at h; cases h
     ·rw [if_neg q] at h; cases h
    ·rw [if_neg q] at h; cases h
  ·rw [if_neg q] at h; cases h
theorem cc_u8 (k : Nat) (l_ : List (T2).T) (web_ : T5.T) (id_ : Int) (h : (f_u8 k l_ web_ id_).isSome = true) : CC Try.prog 14 (args_u8 l_ web_ id_) (bin_u8 l_ web_ id_) (res_u8 (v_u8 k l_ web_ id_)) (bo_u8 l_ web_ id_ (v_u8 k l_ web_ id_)) := by
 cases e : f_u8 k l_ web_ id_ with
 | none => rw [e] at h; cases h
 | some r => rw [show v_u8 k l_ web_ id_ = r by simp [v_u8, e]]; exact of_u8 k l_ web_ id_ r e

end
end Go.AM
namespace Go.AM
open Go Go.Proofs Go.IntKind
set_option linter.unusedVariables false
noncomputable section
end
end Go.AM
namespace Go.AM
open Go Go.Proofs Go.IntKind
set_option linter.unusedVariables false
noncomputable section
end
end Go.AM
namespace Go.AM
open Go Go.Proofs Go.IntKind
set_option linter.unusedVariables false
noncomputable section
end
end Go.AM
namespace Go.AM
open Go Go.Proofs Go.IntKind
set_option linter.unusedVariables false
noncomputable section
end
end Go.AM
namespace Go.AM
open Go Go.Proofs

/-! ### cuts from the web -/
def baseS (W L : Int) : Ch := (0, W, false, if L > 0 then [(0, L, false)] else [])
/-- a roll's cut from the web, from that of its parent -/
def cutJ (r : Ro) (o : Ch × Int) : Ch × Int :=
  if o.2 ≠ 0 then ((0, 0, false, []), o.2)
  else if (comp r.2.2.2.2.2 o.1.2.2.2).2 ≠ 0 then ((0, 0, false, []), (comp r.2.2.2.2.2 o.1.2.2.2).2)
  else (((if o.1.2.2.1 = true then IntKind.i64.wrap (IntKind.i64.wrap (IntKind.i64.wrap (o.1.1 + o.1.2.1) - r.2.2.1) - r.2.2.2.1) else IntKind.i64.wrap (o.1.1 + r.2.2.1)),
    r.2.2.2.1, !(o.1.2.2.1 == r.2.2.2.2.1), (comp r.2.2.2.2.2 o.1.2.2.2).1), 0)
def cutS (l : List Ro) (W L : Int) : Nat → Int → Ch × Int
  | 0, _ => (baseS W L, 0)
  | n + 1, id => if id = 0 then (baseS W L, 0) else match look l id with
    | none => (baseS W L, 0)
    | some r => cutJ r (cutS l W L n r.2.1)
theorem Anc.cases {l : List Ro} {n : Nat} {id : Int} (h : Anc l n id) (h0 : id ≠ 0) : ∃ m r, n = m + 1 ∧ look l id = some r ∧ Anc l m r.2.1 := by
  cases h with
  | root => exact absurd rfl h0
  | step m _ r _ e a => exact ⟨m, r, rfl, e, a⟩

theorem fam_cut (W L : Int) (l : List Ro) (M : List (Int × Int)) (hM : RegOk M l) : ∀ (n : Nat) (id : Int) (k : Nat), Anc l n id → n + 1000 < k → f_u17 k W L l M id = some (cutS l W L n id) := by
  have hbase : ∀ k, f_u17 (k + 1) W L l M 0 = some (baseS W L, 0) := fun k => by
    rw [f_u17]
    show (bif decide (L > 0) then some (((0 : Int), (W, (false, [((0 : Int), L, false)]))), (0 : Int)) else some (((0 : Int), (W, (false, []))), (0 : Int))) = _
    unfold baseS
    by_cases h : L > 0
    · rw [decide_eq_true h, if_pos h]; rfl
    · rw [decide_eq_false h, if_neg h]; rfl
  intro n
  induction n with
  | zero =>
    intro id k ha hk
    obtain ⟨k, rfl⟩ : ∃ q, k = q + 1 := ⟨k - 1, by omega⟩
    by_cases h0 : id = 0
    · rw [h0, hbase]; rfl
    · obtain ⟨m, _, e, _⟩ := ha.cases h0
      cases e
  | succ n ih =>
    intro id k ha hk
    obtain ⟨k, rfl⟩ : ∃ q, k = q + 1 := ⟨k - 1, by omega⟩
    by_cases h0 : id = 0
    · rw [h0, hbase]
      unfold cutS
      rw [if_pos rfl]
    · obtain ⟨m, r, em, e, a⟩ := ha.cases h0
      cases em
      have hf := ih r.2.1 k a (by omega)
      obtain ⟨x, e1, e2, e3⟩ := (hM id).some e
      have hx : (x : Int) < (l.length : Int) := by omega
      rw [f_u17]
      unfold cutS w_u17
      rw [if_neg h0, beq_false_of_ne h0, cond_false, e, e1, Option.getD_some, if_pos ⟨by omega, hx⟩, Int.toNat_natCast, e3, hf, Option.isSome_some, if_pos rfl, Option.getD_some, iso_Compose_s k (by omega), iso_Compose_v k (by omega)]
      show _ = some (cutJ r (cutS l W L n r.2.1))
      generalize cutS l W L n r.2.1 = o
      unfold cutJ
      by_cases h1 : o.2 = 0
      · have g1 : ¬ (o.2 ≠ 0) := fun h => h h1
        rw [show (o.2 != 0) = false by simp [h1], cond_false, Option.isSome_some, if_pos rfl]
        rw [if_neg g1]
        generalize comp r.2.2.2.2.2 o.1.2.2.2 = c
        by_cases h2 : c.2 = 0
        · have g2 : ¬ (c.2 ≠ 0) := fun h => h h2
          rw [show (c.2 != 0) = false by simp [h2], cond_false, if_neg g2]
          cases h3 : o.1.2.2.1
          · rfl
          · rfl
        · rw [bne_iff_ne.2 h2, if_pos h2]; rfl
      · rw [bne_iff_ne.2 h1]
        rw [if_pos h1]; rfl
def cutFull (l : List Ro) (W L id : Int) : Ch × Int := if errS l W L id ≠ 0 then ((0, 0, false, []), errS l W L id) else cutS l W L 512 id
theorem fam_Cut_s (k : Nat) (hk : 300000 ≤ k) (l : List Ro) (web : Int × Int) (id : Int) : f_u5 k l web id = some (cutFull l web.1 web.2 id) := by
  obtain ⟨h1, h2⟩ := fam_find k hk l web id
  unfold f_u5 vA_u13 vB_u13 v_u13 cutFull
  by_cases h : errS l web.1 web.2 id = 0
  · obtain ⟨M, m1, m2, e⟩ := h2 h
    obtain ⟨reg, kn⟩ := errS_zero.1 h
    have hi : ¬ (errS l web.1 web.2 id ≠ 0) := fun h' => h' h
    have hc := fam_cut web.1 web.2 l M m1 512 id k (reg.anc kn) (by omega)
    rw [e, if_neg hi]
    show (if (f_u17 k web.1 web.2 l M id).isSome = true then some ((v_u17 k web.1 web.2 l M id).1, (v_u17 k web.1 web.2 l M id).2) else none) = _
    unfold v_u17
    rw [hc]; rfl
  · rw [h1 h, if_pos h]
    show (bif (errS l web.1 web.2 id != 0) then _ else _) = _
    rw [bne_iff_ne.2 h]; rfl
theorem fam_Cut_v (k : Nat) (hk : 300000 ≤ k) (l : List Ro) (web : Int × Int) (id : Int) : v_u5 k l web id = cutFull l web.1 web.2 id := by
  unfold v_u5; rw [fam_Cut_s k hk l web id]; rfl

/-! ### what is left of a roll -/
def restGo (id : Int) : List Ro → Int → Int
  | [], y => y
  | r :: t, y => restGo id t (if r.2.1 = id then IntKind.i64.wrap (y - IntKind.i64.wrap (r.2.2.2.1 * lenS r.2.2.2.2.2)) else y)
theorem fam_Rest_l (k : Nat) (hk : 2100 ≤ k) (W L : Int) (l : List Ro) (reg : Reg l W L) (M : List (Int × Int)) (hM : RegOk M l) (id z : Int) : ∀ (d i j : Nat) (y : Int), i + d = l.length → d < j →
    f_u20_1 k W L l M z id j l (l.length : Int) (i : Int) y = some (restGo id (l.drop i) y) := by
  intro d
  have hn := reg.num
  induction d with
  | zero =>
    intro i j y hi hj
    obtain ⟨j, rfl⟩ : ∃ q, j = q + 1 := ⟨j - 1, by omega⟩
    rw [f_u20_1, decide_eq_false (by omega : ¬ (i : Int) < (l.length : Int)), cond_false, List.drop_of_length_le (by omega)]; rfl
  | succ d ih =>
    intro i j y hi hj
    obtain ⟨j, rfl⟩ : ∃ q, j = q + 1 := ⟨j - 1, by omega⟩
    have hr : l.getD i T2.dflt ∈ l := getD_mem' _ _ _ (by omega)
    have ro := reg.ok.ro _ hr
    rw [f_u20_1, decide_eq_true (by omega : (i : Int) < (l.length : Int)), cond_true, if_pos ⟨by omega, by omega⟩, Int.toNat_natCast, wrapS i (by omega), drop_cons' l i T2.dflt (by omega), restGo, ih (i + 1) j _ (by omega) (by omega), ih (i + 1) j _ (by omega) (by omega)]
    generalize l.getD i T2.dflt = r at *
    have hp := ro.pos
    obtain ⟨a, b⟩ := fam_size k hk W L l M r.1 reg.wl hM (.inr ⟨r, ro.look⟩)
    have hs := size_some (W := W) (L := L) (by omega : r.1 ≠ 0) ro.look
    have hf : f_u1 k W L l M y r = some (IntKind.i64.wrap (y - IntKind.i64.wrap (r.2.2.2.1 * lenS r.2.2.2.2.2))) := by
      unfold f_u1; rw [a, b, hs]; rfl
    have hv : v_u1 k W L l M y r = IntKind.i64.wrap (y - IntKind.i64.wrap (r.2.2.2.1 * lenS r.2.2.2.2.2)) := by unfold v_u1; rw [hf]; rfl
    rw [hf, hv]
    by_cases h : r.2.1 = id
    · rw [show (r.2.1 == id) = true from beq_iff_eq.2 h, cond_true, if_pos ⟨rfl, rfl⟩, if_pos h]
    · rw [show (r.2.1 == id) = false from beq_false_of_ne h, cond_false, if_pos rfl, if_neg h]
def restE (l : List Ro) (W L id : Int) : Int × Int := if errS l W L id ≠ 0 then (0, errS l W L id) else (restGo id l (IntKind.i64.wrap ((sizeS l W L id).1 * (sizeS l W L id).2)), 0)
theorem fam_Rest_s (k : Nat) (hk : 300000 ≤ k) (l : List Ro) (web : Int × Int) (id : Int) : f_u8 k l web id = some (restE l web.1 web.2 id) := by
  obtain ⟨h1, h2⟩ := fam_find k hk l web id
  unfold f_u8 vA_u13 vB_u13 v_u13 restE
  by_cases h : errS l web.1 web.2 id = 0
  · obtain ⟨M, m1, m2, e⟩ := h2 h
    obtain ⟨reg, kn⟩ := errS_zero.1 h
    have hn := reg.num
    have hi : ¬ (errS l web.1 web.2 id ≠ 0) := fun h' => h' h
    obtain ⟨a, b⟩ := fam_size k (by omega) web.1 web.2 l M id m2 m1 kn
    rw [e, if_neg hi]
    show (if (f_u26 k web.1 web.2 l M id).isSome = true then (if (f_u18 k web.1 web.2 l M id).isSome = true then (if (f_u20 k web.1 web.2 l M (IntKind.i64.wrap ((v_u26 k web.1 web.2 l M id).1 * (v_u26 k web.1 web.2 l M id).2)) id).isSome = true then some (v_u20 k web.1 web.2 l M (IntKind.i64.wrap ((v_u26 k web.1 web.2 l M id).1 * (v_u26 k web.1 web.2 l M id).2)) id, (0 : Int)) else none) else none) else none) = _
    have hr := fam_Rest_l k (by omega) web.1 web.2 l reg M m1 id (IntKind.i64.wrap ((sizeS l web.1 web.2 id).1 * (sizeS l web.1 web.2 id).2)) l.length 0 k (IntKind.i64.wrap ((sizeS l web.1 web.2 id).1 * (sizeS l web.1 web.2 id).2)) (by omega) (by omega)
    unfold v_u20 f_u20
    rw [a, b, show f_u20_1 k web.1 web.2 l M (IntKind.i64.wrap ((sizeS l web.1 web.2 id).1 * (sizeS l web.1 web.2 id).2)) id k l (l.length : Int) 0 (IntKind.i64.wrap ((sizeS l web.1 web.2 id).1 * (sizeS l web.1 web.2 id).2)) = _ from hr]
    rfl
  · rw [h1 h, if_pos h]
    show (bif (errS l web.1 web.2 id != 0) then _ else _) = _
    rw [bne_iff_ne.2 h]; rfl
theorem fam_Rest_v (k : Nat) (hk : 300000 ≤ k) (l : List Ro) (web : Int × Int) (id : Int) : v_u8 k l web id = restE l web.1 web.2 id := by
  unfold v_u8; rw [fam_Rest_s k hk l web id]; rfl
end Go.AM
namespace Go.AM
open Go Go.IntKind

end Go.AM
namespace Go.AM
open Go Go.Proofs Go.IntKind
set_option linter.unusedVariables false
noncomputable section
end
end Go.AM
namespace Go.AM
open Go Go.Proofs Go.IntKind
set_option linter.unusedVariables false
noncomputable section
end
end Go.AM
namespace Go.AM
open Go Go.Proofs Go.IntKind
set_option linter.unusedVariables false
noncomputable section
end
end Go.AM
namespace Go.AM
open Go Go.Proofs Go.IntKind
set_option linter.unusedVariables false
noncomputable section
end
end Go.AM
namespace Go.AM
open Go Go.Proofs

structure PtB (p : Pt) : Prop where
  a0 : 0 ≤ p.2.1
  a1 : p.2.1 ≤ 12000
  b0 : 0 ≤ p.2.2
  b1 : p.2.2 ≤ 17179869184
end Go.AM
namespace Go.AM
open Go Go.Proofs Go.IntKind
set_option linter.unusedVariables false
noncomputable section
abbrev R_u52 : Type := T5.T
def res_u52 (r : R_u52) : AV := .agg (rvs (enc T5 r))
def bo_u52 (x_ : T3.T) (r : R_u52) : List (Nat × Blk) := []
def args_u52 (x_ : T3.T) : List AV := [.agg (rvs (enc T3 x_))]
def bin_u52 (x_ : T3.T) : List Blk := []
def f_u52 (k : Nat) (x_ : T3.T) : Option R_u52 :=
 some x_.2
def v_u52 (k : Nat) (x_ : T3.T) : R_u52 := (f_u52 k x_).getD (T5).dflt
def K_u52 (k : Nat) : Calld := ⟨fun g xs => match g with
 | _ => none, fun g xs bs => match g with
 | _ => none⟩
theorem of_u52 (k : Nat) (x_ : T3.T) (r : R_u52) (h : f_u52 k x_ = some r) : CC Try.prog 10 (args_u52 x_) (bin_u52 x_) (res_u52 r) (bo_u52 x_ r) := by
 refine CC.of (fn := Try.f10) (by kernel_rfl) (by kernel_rfl) (by kernel_rfl) (by kernel_rfl) ?_
 unfold f_u52 at h
 refine Ev.tree hm (R := Rt) (K := (K_u52 k)) (l := []) (C := []) (E := [.autoB [2] true []]) (n := 1000) (T := .leaf (res_u52 x_.2) (bo_u52 x_ x_.2)) (by kernel_rfl) ?_
 cases h; exact ⟨rfl, rfl⟩
theorem cc_u52 (k : Nat) (x_ : T3.T) (h : (f_u52 k x_).isSome = true) : CC Try.prog 10 (args_u52 x_) (bin_u52 x_) (res_u52 (v_u52 k x_)) (bo_u52 x_ (v_u52 k x_)) := by
 cases e : f_u52 k x_ with
 | none => rw [e] at h; cases h
 | some r => rw [show v_u52 k x_ = r by simp [v_u52, e]]; exact of_u52 k x_ r e

end
end Go.AM
namespace Go.AM
open Go Go.Proofs Go.IntKind
set_option linter.unusedVariables false
noncomputable section
abbrev R_u51 : Type := T3.T
def res_u51 (r : R_u51) : AV := .agg (rvs (enc T3 r))
def bo_u51  (r : R_u51) : List (Nat × Blk) := []
def args_u51  : List AV := []
def bin_u51  : List Blk := []
def f_u51 (k : Nat)  : Option R_u51 :=
 some (([(1, 0, 0, 10, true, [(99, 100, true)]), (2, 1, 2, 5, true, [(99, 50, true)])], (10, 100)))
def v_u51 (k : Nat)  : R_u51 := (f_u51 k ).getD (T3).dflt
def K_u51 (k : Nat) : Calld := ⟨fun g xs => match g with
 | _ => none, fun g xs bs => match g with
 | _ => none⟩
theorem of_u51 (k : Nat)  (r : R_u51) (h : f_u51 k  = some r) : CC Try.prog 18 (args_u51 ) (bin_u51 ) (res_u51 r) (bo_u51  r) := by
 refine CC.of (fn := Try.f18) (by kernel_rfl) (by kernel_rfl) (by kernel_rfl) (by kernel_rfl) ?_
 unfold f_u51 at h
 refine Ev.tree hm (R := Rt) (K := (K_u51 k)) (l := []) (C := []) (E := [.frz 0 true T3, .autoB [0] true []]) (n := 1000) (T := .leaf (res_u51 (([(1, 0, 0, 10, true, [(99, 100, true)]), (2, 1, 2, 5, true, [(99, 50, true)])], (10, 100)))) (bo_u51  (([(1, 0, 0, 10, true, [(99, 100, true)]), (2, 1, 2, 5, true, [(99, 50, true)])], (10, 100))))) (by kernel_rfl) ?_
 cases h; exact ⟨rfl, rfl⟩
theorem cc_u51 (k : Nat)  (h : (f_u51 k ).isSome = true) : CC Try.prog 18 (args_u51 ) (bin_u51 ) (res_u51 (v_u51 k )) (bo_u51  (v_u51 k )) := by
 cases e : f_u51 k  with
 | none => rw [e] at h; cases h
 | some r => rw [show v_u51 k  = r by simp [v_u51, e]]; exact of_u51 k  r e

end
end Go.AM
namespace Go.AM
open Go Go.Proofs Go.IntKind
set_option linter.unusedVariables false
noncomputable section
abbrev R_u49 : Type := Bool
def res_u49 (r : R_u49) : AV := .r (.v (.bool r))
def bo_u49  (r : R_u49) : List (Nat × Blk) := []
def args_u49  : List AV := []
def bin_u49  : List Blk := []
def f_u49 (k : Nat)  : Option R_u49 :=
 if ((f_u51 k ).isSome = true) then
 if ((f_u52 k (v_u51 k)).isSome = true) ∧ ((f_u9 k (v_u51 k).1 (v_u52 k (v_u51 k)) (2, 0, 0)).isSome = true) then
 if ((f_u52 k (v_u51 k)).isSome = true) ∧ ((f_u10 k (v_u51 k).1 (v_u52 k (v_u51 k)) (2, 0, 0)).isSome = true) then
 if ((f_u52 k (v_u51 k)).isSome = true) ∧ ((f_u5 k (v_u51 k).1 (v_u52 k (v_u51 k)) 2).isSome = true) then
 if ((f_u52 k (v_u51 k)).isSome = true) ∧ ((f_u8 k (v_u51 k).1 (v_u52 k (v_u51 k)) 1).isSome = true) then
 bif ((v_u9 k (v_u51 k).1 (v_u52 k (v_u51 k)) ((2 : Int), (0 : Int), (0 : Int))).2 != (0 : Int) || (v_u10 k (v_u51 k).1 (v_u52 k (v_u51 k)) ((2 : Int), (0 : Int), (0 : Int))).2 != (0 : Int) || (v_u5 k (v_u51 k).1 (v_u52 k (v_u51 k)) (2 : Int)).2 != (0 : Int) || (v_u8 k (v_u51 k).1 (v_u52 k (v_u51 k)) (1 : Int)).2 != (0 : Int)) then
 some false
 else
 bif (!eqT T4 (v_u9 k (v_u51 k).1 (v_u52 k (v_u51 k)) ((2 : Int), (0 : Int), (0 : Int))).1 ((1 : Int), (6 : Int), (99 : Int)) || (!eqT T4 (v_u10 k (v_u51 k).1 (v_u52 k (v_u51 k)) ((2 : Int), (0 : Int), (0 : Int))).1 ((0 : Int), (3 : Int), (0 : Int))) || (v_u8 k (v_u51 k).1 (v_u52 k (v_u51 k)) (1 : Int)).1 != (750 : Int)) then
 some false
 else
 if (((v_u5 k (v_u51 k).1 (v_u52 k (v_u51 k)) (2 : Int)).1.1 == (3 : Int) && (v_u5 k (v_u51 k).1 (v_u52 k (v_u51 k)) (2 : Int)).1.2.1 == (5 : Int) && (! (v_u5 k (v_u51 k).1 (v_u52 k (v_u51 k)) (2 : Int)).1.2.2.1) && (↑ (List.length (v_u5 k (v_u51 k).1 (v_u52 k (v_u51 k)) (2 : Int)).1.2.2.2) : Int) == (1 : Int)) = true → (0 : Int) ≤ (0 : Int)) ∧ (((v_u5 k (v_u51 k).1 (v_u52 k (v_u51 k)) (2 : Int)).1.1 == (3 : Int) && (v_u5 k (v_u51 k).1 (v_u52 k (v_u51 k)) (2 : Int)).1.2.1 == (5 : Int) && (! (v_u5 k (v_u51 k).1 (v_u52 k (v_u51 k)) (2 : Int)).1.2.2.1) && (↑ (List.length (v_u5 k (v_u51 k).1 (v_u52 k (v_u51 k)) (2 : Int)).1.2.2.2) : Int) == (1 : Int)) = true → (0 : Int) < (↑ (List.length (v_u5 k (v_u51 k).1 (v_u52 k (v_u51 k)) (2 : Int)).1.2.2.2) : Int)) then
 some ((v_u5 k (v_u51 k).1 (v_u52 k (v_u51 k)) 2).1.1 == 3 && (v_u5 k (v_u51 k).1 (v_u52 k (v_u51 k)) 2).1.2.1 == 5 && (! (v_u5 k (v_u51 k).1 (v_u52 k (v_u51 k)) 2).1.2.2.1) && (↑ (List.length (v_u5 k (v_u51 k).1 (v_u52 k (v_u51 k)) 2).1.2.2.2) : Int) == 1 && eqT T0 (List.getD (v_u5 k (v_u51 k).1 (v_u52 k (v_u51 k)) 2).1.2.2.2 (Int.toNat 0) T0.dflt) (0, 50, false))
 else none
 else none
 else none
 else none
 else none
 else none
def v_u49 (k : Nat)  : R_u49 := (f_u49 k ).getD false
def K_u49 (k : Nat) : Calld := ⟨fun g xs => match g with
 | 9 => match xs with
  | [_, _, _] => some [false, false, false]
  | _ => none
 | 10 => match xs with
  | [_] => some [false]
  | _ => none
 | 11 => match xs with
  | [_, _, _] => some [false, false, false]
  | _ => none
 | 13 => match xs with
  | [_, _, _] => some [false, false, false]
  | _ => none
 | 14 => match xs with
  | [_, _, _] => some [false, false, false]
  | _ => none
 | 18 => match xs with
  | [] => some []
  | _ => none
 | _ => none, fun g xs bs => match g with
 | 9 => match xs, bs with
  | [.r (.ro tl__ ql_), .agg qweb_, .agg qp_], [] => (castL tl__ T2 ql_).bind fun l_ => (decS [] T5 qweb_).bind fun web_ => (decS [] T4 qp_).bind fun p_ => some (.one (res_u10 (v_u10 k l_ web_ p_), bo_u10 l_ web_ p_ (v_u10 k l_ web_ p_)))
  | _, _ => none
 | 10 => match xs, bs with
  | [.agg qx_], [] => (decS [] T3 qx_).bind fun x_ => some (.one (res_u52 (v_u52 k x_), bo_u52 x_ (v_u52 k x_)))
  | _, _ => none
 | 11 => match xs, bs with
  | [.r (.ro tl__ ql_), .agg qweb_, .r (.v (.int .i64 id_))], [] => (castL tl__ T2 ql_).bind fun l_ => (decS [] T5 qweb_).bind fun web_ => some (.one (res_u5 (v_u5 k l_ web_ id_), bo_u5 l_ web_ id_ (v_u5 k l_ web_ id_)))
  | _, _ => none
 | 13 => match xs, bs with
  | [.r (.ro tl__ ql_), .agg qweb_, .agg qp_], [] => (castL tl__ T2 ql_).bind fun l_ => (decS [] T5 qweb_).bind fun web_ => (decS [] T4 qp_).bind fun p_ => some (.one (res_u9 (v_u9 k l_ web_ p_), bo_u9 l_ web_ p_ (v_u9 k l_ web_ p_)))
  | _, _ => none
 | 14 => match xs, bs with
  | [.r (.ro tl__ ql_), .agg qweb_, .r (.v (.int .i64 id_))], [] => (castL tl__ T2 ql_).bind fun l_ => (decS [] T5 qweb_).bind fun web_ => some (.one (res_u8 (v_u8 k l_ web_ id_), bo_u8 l_ web_ id_ (v_u8 k l_ web_ id_)))
  | _, _ => none
 | 18 => match xs, bs with
  | [], [] => some (.one (res_u51 (v_u51 k ), bo_u51  (v_u51 k )))
  | _, _ => none
 | _ => none⟩
theorem of_u49 (k : Nat)  (r : R_u49) (h : f_u49 k  = some r) : CC Try.prog 8 (args_u49 ) (bin_u49 ) (res_u49 r) (bo_u49  r) := by
 refine CC.of (fn := Try.f8) (by kernel_rfl) (by kernel_rfl) (by kernel_rfl) (by kernel_rfl) ?_
 unfold f_u49 at h
 refine Ev.tree hm (R := Rt) (K := (K_u49 k)) (l := []) (C := []) (E := [.autoB [0] true []]) (n := 1000) (T := .need [CC Try.prog 18 (args_u51 ) (bin_u51 ) (res_u51 (v_u51 k )) (bo_u51  (v_u51 k ))] (.need [CC Try.prog 10 (args_u52 (v_u51 k)) (bin_u52 (v_u51 k)) (res_u52 (v_u52 k (v_u51 k))) (bo_u52 (v_u51 k) (v_u52 k (v_u51 k))), CC Try.prog 13 (args_u9 (v_u51 k).1 (v_u52 k (v_u51 k)) (2, 0, 0)) (bin_u9 (v_u51 k).1 (v_u52 k (v_u51 k)) (2, 0, 0)) (res_u9 (v_u9 k (v_u51 k).1 (v_u52 k (v_u51 k)) (2, 0, 0))) (bo_u9 (v_u51 k).1 (v_u52 k (v_u51 k)) (2, 0, 0) (v_u9 k (v_u51 k).1 (v_u52 k (v_u51 k)) (2, 0, 0)))] (.need [CC Try.prog 10 (args_u52 (v_u51 k)) (bin_u52 (v_u51 k)) (res_u52 (v_u52 k (v_u51 k))) (bo_u52 (v_u51 k) (v_u52 k (v_u51 k))), CC Try.prog 9 (args_u10 (v_u51 k).1 (v_u52 k (v_u51 k)) (2, 0, 0)) (bin_u10 (v_u51 k).1 (v_u52 k (v_u51 k)) (2, 0, 0)) (res_u10 (v_u10 k (v_u51 k).1 (v_u52 k (v_u51 k)) (2, 0, 0))) (bo_u10 (v_u51 k).1 (v_u52 k (v_u51 k)) (2, 0, 0) (v_u10 k (v_u51 k).1 (v_u52 k (v_u51 k)) (2, 0, 0)))] (.need [CC Try.prog 10 (args_u52 (v_u51 k)) (bin_u52 (v_u51 k)) (res_u52 (v_u52 k (v_u51 k))) (bo_u52 (v_u51 k) (v_u52 k (v_u51 k))), CC Try.prog 11 (args_u5 (v_u51 k).1 (v_u52 k (v_u51 k)) 2) (bin_u5 (v_u51 k).1 (v_u52 k (v_u51 k)) 2) (res_u5 (v_u5 k (v_u51 k).1 (v_u52 k (v_u51 k)) 2)) (bo_u5 (v_u51 k).1 (v_u52 k (v_u51 k)) 2 (v_u5 k (v_u51 k).1 (v_u52 k (v_u51 k)) 2))] (.need [CC Try.prog 10 (args_u52 (v_u51 k)) (bin_u52 (v_u51 k)) (res_u52 (v_u52 k (v_u51 k))) (bo_u52 (v_u51 k) (v_u52 k (v_u51 k))), CC Try.prog 14 (args_u8 (v_u51 k).1 (v_u52 k (v_u51 k)) 1) (bin_u8 (v_u51 k).1 (v_u52 k (v_u51 k)) 1) (res_u8 (v_u8 k (v_u51 k).1 (v_u52 k (v_u51 k)) 1)) (bo_u8 (v_u51 k).1 (v_u52 k (v_u51 k)) 1 (v_u8 k (v_u51 k).1 (v_u52 k (v_u51 k)) 1))] (.test (((v_u9 k (v_u51 k).1 (v_u52 k (v_u51 k)) ((2 : Int), (0 : Int), (0 : Int))).2 != (0 : Int) || (v_u10 k (v_u51 k).1 (v_u52 k (v_u51 k)) ((2 : Int), (0 : Int), (0 : Int))).2 != (0 : Int) || (v_u5 k (v_u51 k).1 (v_u52 k (v_u51 k)) (2 : Int)).2 != (0 : Int) || (v_u8 k (v_u51 k).1 (v_u52 k (v_u51 k)) (1 : Int)).2 != (0 : Int))) (.leaf (res_u49 false) (bo_u49  false)) (.test ((!eqT T4 (v_u9 k (v_u51 k).1 (v_u52 k (v_u51 k)) ((2 : Int), (0 : Int), (0 : Int))).1 ((1 : Int), (6 : Int), (99 : Int)) || (!eqT T4 (v_u10 k (v_u51 k).1 (v_u52 k (v_u51 k)) ((2 : Int), (0 : Int), (0 : Int))).1 ((0 : Int), (3 : Int), (0 : Int))) || (v_u8 k (v_u51 k).1 (v_u52 k (v_u51 k)) (1 : Int)).1 != (750 : Int))) (.leaf (res_u49 false) (bo_u49  false)) (.need [((v_u5 k (v_u51 k).1 (v_u52 k (v_u51 k)) (2 : Int)).1.1 == (3 : Int) && (v_u5 k (v_u51 k).1 (v_u52 k (v_u51 k)) (2 : Int)).1.2.1 == (5 : Int) && (! (v_u5 k (v_u51 k).1 (v_u52 k (v_u51 k)) (2 : Int)).1.2.2.1) && (↑ (List.length (v_u5 k (v_u51 k).1 (v_u52 k (v_u51 k)) (2 : Int)).1.2.2.2) : Int) == (1 : Int)) = true → (0 : Int) ≤ (0 : Int), ((v_u5 k (v_u51 k).1 (v_u52 k (v_u51 k)) (2 : Int)).1.1 == (3 : Int) && (v_u5 k (v_u51 k).1 (v_u52 k (v_u51 k)) (2 : Int)).1.2.1 == (5 : Int) && (! (v_u5 k (v_u51 k).1 (v_u52 k (v_u51 k)) (2 : Int)).1.2.2.1) && (↑ (List.length (v_u5 k (v_u51 k).1 (v_u52 k (v_u51 k)) (2 : Int)).1.2.2.2) : Int) == (1 : Int)) = true → (0 : Int) < (↑ (List.length (v_u5 k (v_u51 k).1 (v_u52 k (v_u51 k)) (2 : Int)).1.2.2.2) : Int)] (.leaf (res_u49 ((v_u5 k (v_u51 k).1 (v_u52 k (v_u51 k)) 2).1.1 == 3 && (v_u5 k (v_u51 k).1 (v_u52 k (v_u51 k)) 2).1.2.1 == 5 && (! (v_u5 k (v_u51 k).1 (v_u52 k (v_u51 k)) 2).1.2.2.1) && (↑ (List.length (v_u5 k (v_u51 k).1 (v_u52 k (v_u51 k)) 2).1.2.2.2) : Int) == 1 && eqT T0 (List.getD (v_u5 k (v_u51 k).1 (v_u52 k (v_u51 k)) 2).1.2.2.2 (Int.toNat 0) T0.dflt) (0, 50, false))) (bo_u49  ((v_u5 k (v_u51 k).1 (v_u52 k (v_u51 k)) 2).1.1 == 3 && (v_u5 k (v_u51 k).1 (v_u52 k (v_u51 k)) 2).1.2.1 == 5 && (! (v_u5 k (v_u51 k).1 (v_u52 k (v_u51 k)) 2).1.2.2.1) && (↑ (List.length (v_u5 k (v_u51 k).1 (v_u52 k (v_u51 k)) 2).1.2.2.2) : Int) == 1 && eqT T0 (List.getD (v_u5 k (v_u51 k).1 (v_u52 k (v_u51 k)) 2).1.2.2.2 (Int.toNat 0) T0.dflt) (0, 50, false)))))))))))) (by kernel_rfl) ?_
 by_cases q : ((f_u51 k ).isSome = true)
 ·rw [if_pos q] at h
  refine ⟨(conjC (cc_u51 k  q) conj0), ?_⟩
  by_cases q : ((f_u52 k (v_u51 k)).isSome = true) ∧ ((f_u9 k (v_u51 k).1 (v_u52 k (v_u51 k)) (2, 0, 0)).isSome = true)
  ·rw [if_pos q] at h
   refine ⟨(conjC (cc_u52 k (v_u51 k) q.1) (conjC (cc_u9 k (v_u51 k).1 (v_u52 k (v_u51 k)) (2, 0, 0) q.2) conj0)), ?_⟩
   by_cases q : ((f_u52 k (v_u51 k)).isSome = true) ∧ ((f_u10 k (v_u51 k).1 (v_u52 k (v_u51 k)) (2, 0, 0)).isSome = true)
   ·rw [if_pos q] at h
    refine ⟨(conjC (cc_u52 k (v_u51 k) q.1) (conjC (cc_u10 k (v_u51 k).1 (v_u52 k (v_u51 k)) (2, 0, 0) q.2) conj0)), ?_⟩
    by_cases q : ((f_u52 k (v_u51 k)).isSome = true) ∧ ((f_u5 k (v_u51 k).1 (v_u52 k (v_u51 k)) 2).isSome = true)
    ·rw [if_pos q] at h
     refine ⟨(conjC (cc_u52 k (v_u51 k) q.1) (conjC (cc_u5 k (v_u51 k).1 (v_u52 k (v_u51 k)) 2 q.2) conj0)), ?_⟩
     by_cases q : ((f_u52 k (v_u51 k)).isSome = true) ∧ ((f_u8 k (v_u51 k).1 (v_u52 k (v_u51 k)) 1).isSome = true)
     ·rw [if_pos q] at h
      refine ⟨(conjC (cc_u52 k (v_u51 k) q.1) (conjC (cc_u8 k (v_u51 k).1 (v_u52 k (v_u51 k)) 1 q.2) conj0)), ?_⟩
      refine ⟨fun c => ?_, fun c => ?_⟩
      ·rw [cond_t (show (((v_u9 k (v_u51 k).1 (v_u52 k (v_u51 k)) ((2 : Int), (0 : Int), (0 : Int))).2 != (0 : Int) || (v_u10 k (v_u51 k).1 (v_u52 k (v_u51 k)) ((2 : Int), (0 : Int), (0 : Int))).2 != (0 : Int) || (v_u5 k (v_u51 k).1 (v_u52 k (v_u51 k)) (2 : Int)).2 != (0 : Int) || (v_u8 k (v_u51 k).1 (v_u52 k (v_u51 k)) (1 : Int)).2 != (0 : Int))) = true from c)] at h
       cases h; exact ⟨rfl, rfl⟩
      ·rw [cond_f (show (((v_u9 k (v_u51 k).1 (v_u52 k (v_u51 k)) ((2 : Int), (0 : Int), (0 : Int))).2 != (0 : Int) || (v_u10 k (v_u51 k).1 (v_u52 k (v_u51 k)) ((2 : Int), (0 : Int), (0 : Int))).2 != (0 : Int) || (v_u5 k (v_u51 k).1 (v_u52 k (v_u51 k)) (2 : Int)).2 != (0 : Int) || (v_u8 k (v_u51 k).1 (v_u52 k (v_u51 k)) (1 : Int)).2 != (0 : Int))) = false from c)] at h
       refine ⟨fun c => ?_, fun c => ?_⟩
       ·rw [cond_t (show ((!eqT T4 (v_u9 k (v_u51 k).1 (v_u52 k (v_u51 k)) ((2 : Int), (0 : Int), (0 : Int))).1 ((1 : Int), (6 : Int), (99 : Int)) || (!eqT T4 (v_u10 k (v_u51 k).1 (v_u52 k (v_u51 k)) ((2 : Int), (0 : Int), (0 : Int))).1 ((0 : Int), (3 : Int), (0 : Int))) || (v_u8 k (v_u51 k).1 (v_u52 k (v_u51 k)) (1 : Int)).1 != (750 : Int))) = true from c)] at h
        cases h; exact ⟨rfl, rfl⟩
       ·rw [cond_f (show ((!eqT T4 (v_u9 k (v_u51 k).1 (v_u52 k (v_u51 k)) ((2 : Int), (0 : Int), (0 : Int))).1 ((1 : Int), (6 : Int), (99 : Int)) || (!eqT T4 (v_u10 k (v_u51 k).1 (v_u52 k (v_u51 k)) ((2 : Int), (0 : Int), (0 : Int))).1 ((0 : Int), (3 : Int), (0 : Int))) || (v_u8 k (v_u51 k).1 (v_u52 k (v_u51 k)) (1 : Int)).1 != (750 : Int))) = false from c)] at h
        by_cases q : (((v_u5 k (v_u51 k).1 (v_u52 k (v_u51 k)) (2 : Int)).1.1 == (3 : Int) && (v_u5 k (v_u51 k).1 (v_u52 k (v_u51 k)) (2 : Int)).1.2.1 == (5 : Int) && (! (v_u5 k (v_u51 k).1 (v_u52 k (v_u51 k)) (2 : Int)).1.2.2.1) && (↑ (List.length (v_u5 k (v_u51 k).1 (v_u52 k (v_u51 k)) (2 : Int)).1.2.2.2) : Int) == (1 : Int)) = true → (0 : Int) ≤ (0 : Int)) ∧ (((v_u5 k (v_u51 k).1 (v_u52 k (v_u51 k)) (2 : Int)).1.1 == (3 : Int) && (v_u5 k (v_u51 k).1 (v_u52 k (v_u51 k)) (2 : Int)).1.2.1 == (5 : Int) && (! (v_u5 k (v_u51 k).1 (v_u52 k (v_u51 k)) (2 : Int)).1.2.2.1) && (↑ (List.length (v_u5 k (v_u51 k).1 (v_u52 k (v_u51 k)) (2 : Int)).1.2.2.2) : Int) == (1 : Int)) = true → (0 : Int) < (↑ (List.length (v_u5 k (v_u51 k).1 (v_u52 k (v_u51 k)) (2 : Int)).1.2.2.2) : Int))
        ·rw [if_pos q] at h
         refine ⟨(conjC q.1 (conjC q.2 conj0)), ?_⟩
         cases h; exact ⟨rfl, rfl⟩
        ·rw [if_neg q] at h; cases h
     ·rw [if_neg q] at h; cases h
    ·rw [if_neg q] at h; cases h
   ·rw [if_neg q] at h; cases h
  ·rw [if_neg q] at h; cases h
 ·rw [if_neg q] at h; cases h
theorem cc_u49 (k : Nat)  (h : (f_u49 k ).isSome = true) : CC Try.prog 8 (args_u49 ) (bin_u49 ) (res_u49 (v_u49 k )) (bo_u49  (v_u49 k )) := by
 cases e : f_u49 k  with
 | none => rw [e] at h; cases h
 | some r => rw [show v_u49 k  = r by simp [v_u49, e]]; exact of_u49 k  r e

end
end Go.AM
namespace Go.AM
open Go Go.Proofs Go.IntKind
set_option linter.unusedVariables false
noncomputable section
abbrev R_u50 : Type := Bool
def res_u50 (r : R_u50) : AV := .r (.v (.bool r))
def bo_u50 (x_ : T3.T) (r : R_u50) : List (Nat × Blk) := []
def args_u50 (x_ : T3.T) : List AV := [.agg (rvs (enc T3 x_))]
def bin_u50 (x_ : T3.T) : List Blk := []
def st_u50_4 (y0 : List (T2).T) (y1 : Int) (y2 : Int) : St := ⟨mkS 22 [(10, .r (.ro T2 y0)), (11, .r (.v (.int .i64 y1))), (12, .r (.v (.int .i64 y2)))], []⟩
def f_u50_4 (k : Nat) : Nat → List (T2).T → Int → Int → Option R_u50
 | 0, _, _, _ => none
 | j + 1, y0, y1, y2 =>
 bif (decide (y2 < y1)) then
 if (0 ≤ y2) ∧ (y2 < (↑y0.length : Int)) then
 bif (decide ((↑ (List.length (y0.getD y2.toNat T2.dflt).2.2.2.2.2) : Int) > (20 : Int))) then
 some true
 else
 f_u50_4 k j y0 y1 ((i64.wrap (y2 + 1)))
 else none
 else
 some false
def f_u50 (k : Nat) (x_ : T3.T) : Option R_u50 :=
 bif (decide ((↑ (List.length x_.1) : Int) > (30 : Int))) then
 some true
 else
 f_u50_4 k k x_.1 ((↑ (List.length x_.1) : Int)) 0
def v_u50 (k : Nat) (x_ : T3.T) : R_u50 := (f_u50 k x_).getD false
def K_u50 (k : Nat) : Calld := ⟨fun g xs => match g with
 | _ => none, fun g xs bs => match g with
 | _ => none⟩
theorem ev_u50 (k : Nat) (x_ : T3.T) : ∀ j, (∀ (y0 : List (T2).T) (y1 : Int) (y2 : Int) (r : R_u50), f_u50_4 k j y0 y1 y2 = some r → Ev Try.prog Try.f6 0 (placeAt Try.f6 4) (st_u50_4 y0 y1 y2) (res_u50 r) (bo_u50 x_ r))
 | 0 => by
  intros; rename_i h; simp [f_u50_4] at h
 | j + 1 => by
  have ih := ev_u50 k x_ j
  ·intro y0 y1 y2 r h
   rw [f_u50_4] at h
   refine Ev.tree hm (R := Rt) (K := (K_u50 k)) (l := []) (C := [(4, [.autoB [10, 11, 12] false []])]) (E := [.autoB [2] true []]) (n := 1000) (T := .test ((decide (y2 < y1))) (.need [0 ≤ y2, y2 < (↑y0.length : Int)] (.test ((decide ((↑ (List.length (y0.getD y2.toNat T2.dflt).2.2.2.2.2) : Int) > (20 : Int)))) (.leaf (res_u50 true) (bo_u50 x_ true)) (.cut 4 (placeAt Try.f6 4) (st_u50_4 y0 y1 ((i64.wrap (y2 + 1))))))) (.leaf (res_u50 false) (bo_u50 x_ false))) (by kernel_rfl) ?_
   refine ⟨fun c => ?_, fun c => ?_⟩
   ·rw [cond_t (show ((decide (y2 < y1))) = true from c)] at h
    by_cases q : (0 ≤ y2) ∧ (y2 < (↑y0.length : Int))
    ·rw [if_pos q] at h
     refine ⟨(conjC q.1 (conjC q.2 conj0)), ?_⟩
     refine ⟨fun c => ?_, fun c => ?_⟩
     ·rw [cond_t (show ((decide ((↑ (List.length (y0.getD y2.toNat T2.dflt).2.2.2.2.2) : Int) > (20 : Int)))) = true from c)] at h
      cases h; exact ⟨rfl, rfl⟩
     ·rw [cond_f (show ((decide ((↑ (List.length (y0.getD y2.toNat T2.dflt).2.2.2.2.2) : Int) > (20 : Int)))) = false from c)] at h
      exact ih y0 y1 ((i64.wrap (y2 + 1))) _ h
    ·rw [if_neg q] at h; cases h
   ·rw [cond_f (show ((decide (y2 < y1))) = false from c)] at h
    cases h; exact ⟨rfl, rfl⟩
theorem of_u50 (k : Nat) (x_ : T3.T) (r : R_u50) (h : f_u50 k x_ = some r) : CC Try.prog 6 (args_u50 x_) (bin_u50 x_) (res_u50 r) (bo_u50 x_ r) := by
 refine CC.of (fn := Try.f6) (by kernel_rfl) (by kernel_rfl) (by kernel_rfl) (by kernel_rfl) ?_
 unfold f_u50 at h
 refine Ev.tree hm (R := Rt) (K := (K_u50 k)) (l := []) (C := [(4, [.autoB [10, 11, 12] false []])]) (E := [.autoB [2] true []]) (n := 1000) (T := .test ((decide ((↑ (List.length x_.1) : Int) > (30 : Int)))) (.leaf (res_u50 true) (bo_u50 x_ true)) (.cut 4 (placeAt Try.f6 4) (st_u50_4 x_.1 ((↑ (List.length x_.1) : Int)) 0))) (by kernel_rfl) ?_
 refine ⟨fun c => ?_, fun c => ?_⟩
 ·rw [cond_t (show ((decide ((↑ (List.length x_.1) : Int) > (30 : Int)))) = true from c)] at h
  cases h; exact ⟨rfl, rfl⟩
 ·rw [cond_f (show ((decide ((↑ (List.length x_.1) : Int) > (30 : Int)))) = false from c)] at h
  exact (ev_u50 k x_ k) x_.1 ((↑ (List.length x_.1) : Int)) 0 _ h
theorem cc_u50 (k : Nat) (x_ : T3.T) (h : (f_u50 k x_).isSome = true) : CC Try.prog 6 (args_u50 x_) (bin_u50 x_) (res_u50 (v_u50 k x_)) (bo_u50 x_ (v_u50 k x_)) := by
 cases e : f_u50 k x_ with
 | none => rw [e] at h; cases h
 | some r => rw [show v_u50 k x_ = r by simp [v_u50, e]]; exact of_u50 k x_ r e

end
end Go.AM
namespace Go.AM
open Go Go.Proofs

/-! ### the small register -/
def sm1 : Ro := (1, 0, 0, 10, true, [(99, 100, true)])
def sm2 : Ro := (2, 1, 2, 5, true, [(99, 50, true)])
def sm : List Ro := [sm1, sm2]
theorem single_one (r : Rn) (h : good r) (hc : chk [r] = 0) (hn : Nr (-1) [spn r]) : singleS [r] = true := by
  have e : nf ([r].map spn) = [spn r] := nf_self (spn_in (m := [r]) ⟨h, trivial⟩) hn
  unfold singleS
  rw [e, hc]
  have := h.lohi
  show (decide ((0 : Int) = 0) && ((hi r + 1 - lo r + 0) == r.2.1 + 0)) = true
  rw [beq_iff_eq.2 (by omega)]; rfl
theorem sm_reg : Reg sm 10 100 := by
  have h1 : singleS [(99, 100, true)] = true := single_one _ (by decide) (by decide) ⟨by decide, by decide, trivial⟩
  have h2 : singleS [(99, 50, true)] = true := single_one _ (by decide) (by decide) ⟨by decide, by decide, trivial⟩
  refine ⟨by decide, by decide, by decide, ?_⟩
  have o1 : Okp 10 100 ([] ++ [sm1]) := .snoc [] sm1 .nil ⟨by decide, by decide, .inl rfl, ⟨by decide, by decide, by decide, chk_zero.1 (by decide), by decide, h1, by decide⟩⟩ rfl rfl
  exact .snoc [sm1] sm2 o1 ⟨by decide, by decide, .inr ⟨sm1, rfl⟩, ⟨by decide, by decide, by decide, chk_zero.1 (by decide), by decide, h2, by decide⟩⟩ rfl rfl
theorem sm_err1 : errS sm 10 100 1 = 0 := errS_zero.2 ⟨sm_reg, .inr ⟨sm1, rfl⟩⟩
theorem sm_err2 : errS sm 10 100 2 = 0 := errS_zero.2 ⟨sm_reg, .inr ⟨sm2, rfl⟩⟩
theorem sm_up : upS sm 10 100 (2, 0, 0) = ((1, 6, 99), 0) := by
  unfold upS
  rw [if_neg (fun h : errS sm 10 100 2 ≠ 0 => h sm_err2)]
  rfl
theorem sm_web : webE sm 10 100 (2, 0, 0) = ((0, 3, 0), 0) := by
  have : onE sm 10 100 (2, 0, 0) = 0 := by
    unfold onE
    rw [if_neg (fun h : errS sm 10 100 2 ≠ 0 => h sm_err2)]
    rfl
  unfold webE
  rw [if_neg (fun h => h this)]
  rfl
theorem sm_cut : cutFull sm 10 100 2 = ((3, 5, false, [(0, 50, false)]), 0) := by
  unfold cutFull
  rw [if_neg (fun h : errS sm 10 100 2 ≠ 0 => h sm_err2)]
  rfl
theorem sm_rest : restE sm 10 100 1 = (750, 0) := by
  unfold restE
  rw [if_neg (fun h : errS sm 10 100 1 ≠ 0 => h sm_err1)]
  rfl
theorem awake_s (k : Nat) (hk : 301000 ≤ k) : f_u49 k = some true := by
  have hs : v_u51 k = (sm, 10, 100) := rfl
  have hw : v_u52 k (sm, 10, 100) = (10, 100) := rfl
  unfold f_u49
  rw [hs, hw]
  show (if (some (sm, (10 : Int), (100 : Int))).isSome = true then (if true = true ∧ (f_u9 k sm (10, 100) (2, 0, 0)).isSome = true then (if true = true ∧ (f_u10 k sm (10, 100) (2, 0, 0)).isSome = true then (if true = true ∧ (f_u5 k sm (10, 100) 2).isSome = true then (if true = true ∧ (f_u8 k sm (10, 100) 1).isSome = true then
    (bif ((v_u9 k sm (10, 100) (2, 0, 0)).2 != 0 || (v_u10 k sm (10, 100) (2, 0, 0)).2 != 0 || (v_u5 k sm (10, 100) 2).2 != 0 || (v_u8 k sm (10, 100) 1).2 != 0) then some false
      else bif (!eqT T4 (v_u9 k sm (10, 100) (2, 0, 0)).1 ((1 : Int), (6 : Int), (99 : Int)) || (!eqT T4 (v_u10 k sm (10, 100) (2, 0, 0)).1 ((0 : Int), (3 : Int), (0 : Int))) || (v_u8 k sm (10, 100) 1).1 != 750) then some false
      else _) else _) else _) else _) else _) else _) = _
  rw [fam_Up_s k (by omega), fam_Web_s k (by omega), fam_Cut_s k (by omega), fam_Rest_s k (by omega), fam_Up_v k (by omega), fam_Web_v k (by omega), fam_Cut_v k (by omega), fam_Rest_v k (by omega)]
  show (if (some (sm, (10 : Int), (100 : Int))).isSome = true then (if true = true ∧ (some (upS sm 10 100 (2, 0, 0))).isSome = true then (if true = true ∧ (some (webE sm 10 100 (2, 0, 0))).isSome = true then (if true = true ∧ (some (cutFull sm 10 100 2)).isSome = true then (if true = true ∧ (some (restE sm 10 100 1)).isSome = true then
    (bif ((upS sm 10 100 (2, 0, 0)).2 != 0 || (webE sm 10 100 (2, 0, 0)).2 != 0 || (cutFull sm 10 100 2).2 != 0 || (restE sm 10 100 1).2 != 0) then some false
      else bif (!eqT T4 (upS sm 10 100 (2, 0, 0)).1 ((1 : Int), (6 : Int), (99 : Int)) || (!eqT T4 (webE sm 10 100 (2, 0, 0)).1 ((0 : Int), (3 : Int), (0 : Int))) || (restE sm 10 100 1).1 != 750) then some false
      else _) else _) else _) else _) else _) else _) = _
  rw [sm_up, sm_web, sm_cut, sm_rest]
  rfl
theorem awake_v (k : Nat) (hk : 301000 ≤ k) : v_u49 k = true := by
  unfold v_u49; rw [awake_s k hk]; rfl
theorem web_v (k : Nat) (x : List Ro × Int × Int) : v_u52 k x = x.2 := rfl
theorem web_s (k : Nat) (x : List Ro × Int × Int) : f_u52 k x = some x.2 := rfl
theorem great_l (k : Nat) (l : List Ro) (hl : l.length ≤ 30) : ∀ (d i j : Nat), i + d = l.length → d < j → (f_u50_4 k j l (l.length : Int) (i : Int)).isSome = true := by
  intro d
  induction d with
  | zero =>
    intro i j hi hj
    obtain ⟨j, rfl⟩ : ∃ q, j = q + 1 := ⟨j - 1, by omega⟩
    rw [f_u50_4, decide_eq_false (by omega : ¬ (i : Int) < (l.length : Int)), cond_false]; rfl
  | succ d ih =>
    intro i j hi hj
    obtain ⟨j, rfl⟩ : ∃ q, j = q + 1 := ⟨j - 1, by omega⟩
    rw [f_u50_4, decide_eq_true (by omega : (i : Int) < (l.length : Int)), cond_true, if_pos ⟨by omega, by omega⟩, wrapS i (by omega)]
    cases decide ((List.length (l.getD (i : Int).toNat T2.dflt).2.2.2.2.2 : Int) > 20)
    · rw [cond_false]; exact ih (i + 1) j (by omega) (by omega)
    · rfl
theorem great_s (k : Nat) (hk : 100 ≤ k) (x : List Ro × Int × Int) : (f_u50 k x).isSome = true := by
  unfold f_u50
  by_cases h : x.1.length > 30
  · rw [decide_eq_true (by omega : (x.1.length : Int) > 30)]; rfl
  · rw [decide_eq_false (by omega : ¬ (x.1.length : Int) > 30), cond_false]
    exact great_l k x.1 (by omega) x.1.length 0 k (by omega) (by omega)
theorem eqT_pt (p : Pt) : eqT T4 p p = true := by
  show ((p.1 == p.1) && ((p.2.1 == p.2.1) && (p.2.2 == p.2.2))) = true
  simp
end Go.AM
namespace Go.AM
open Go Go.Proofs

/-! ### the cut from the web says where a point lies -/
def acrS (c : Ch) (x : Int) : Int := if c.2.2.1 = true then c.1 + c.2.1 - 1 - x else c.1 + x
theorem webS_root {l : List Ro} {p : Pt} (h : p.1 = 0) (n : Nat) : webS l n p = p := by
  cases n with
  | zero => rfl
  | succ n => unfold webS; rw [if_pos h]
theorem webS_step {l : List Ro} {p : Pt} {r : Ro} (h0 : p.1 ≠ 0) (e : look l p.1 = some r) (n : Nat) : webS l (n + 1) p = webS l n (placeS r p) := by
  rw [webS, if_neg h0, e]
theorem webS_mono {l : List Ro} : ∀ (n : Nat) (p : Pt), Anc l n p.1 → ∀ m, n ≤ m → webS l m p = webS l n p := by
  intro n
  induction n with
  | zero =>
    intro p ha m hm
    by_cases h0 : p.1 = 0
    · rw [webS_root h0, webS_root h0]
    · obtain ⟨_, _, e, _⟩ := ha.cases h0
      cases e
  | succ n ih =>
    intro p ha m hm
    by_cases h0 : p.1 = 0
    · rw [webS_root h0, webS_root h0]
    · obtain ⟨k, r, ek, e, a⟩ := ha.cases h0
      cases ek
      obtain ⟨m, rfl⟩ : ∃ q, m = q + 1 := ⟨m - 1, by omega⟩
      rw [webS_step h0 e, webS_step h0 e]
      exact ih (placeS r p) a m (by omega)
structure CutIn (l : List Ro) (W L id : Int) (c : Ch) (n : Nat) : Prop where
  left : 0 ≤ c.1
  right : c.1 + c.2.1 ≤ W
  width : c.2.1 = (sizeS l W L id).1
  chk : Chk c.2.2.2
  len : lenS c.2.2.2 = (sizeS l W L id).2
  web : ∀ p : Pt, p.1 = id → On l W L p → webS l n p = (0, acrS c p.2.1, imgAt c.2.2.2 p.2.2)
theorem base_in {l : List Ro} {W L : Int} (reg : Reg l W L) (n : Nat) : CutIn l W L 0 (baseS W L) n := by
  have hw := reg.w
  have hl := reg.len
  have hs : sizeS l W L 0 = (W, L) := by unfold sizeS; rw [if_pos rfl]
  have hb : (baseS W L) = (0, W, false, if L > 0 then [(0, L, false)] else []) := rfl
  refine ⟨Int.le_refl _, by rw [hb]; show (0 : Int) + W ≤ W; omega, by rw [hs]; rfl, ?_, ?_, ?_⟩
  · rw [hb]
    show Chk (if L > 0 then [(0, L, false)] else [])
    by_cases h : L > 0
    · rw [if_pos h]
      exact ⟨by simp, ⟨⟨by show 1 ≤ L; omega, by show L ≤ _; omega, by show (0 : Int) ≤ 0; omega, by show (0 : Int) < _; omega, fun h => (by cases h), fun _ => by show (0 : Int) + L ≤ _; omega⟩, trivial⟩, by simp only [lenS]; omega⟩
    · rw [if_neg h]
      exact ⟨by simp, trivial, by simp only [lenS]; omega⟩
  · rw [hb, hs]
    show lenS (if L > 0 then [(0, L, false)] else []) = L
    by_cases h : L > 0
    · rw [if_pos h]; simp only [lenS]; omega
    · rw [if_neg h]; simp only [lenS]; omega
  · intro p h0 on
    obtain ⟨a0, a1, b0, b1⟩ := on
    rw [h0, hs] at a1 b1
    have b1 : p.2.2 < L := b1
    rw [webS_root h0, hb]
    show p = (0, acrS (0, W, false, _) p.2.1, imgAt (if L > 0 then [(0, L, false)] else []) p.2.2)
    rw [if_pos (by omega)]
    unfold imgAt acrS img
    rw [if_pos b1, if_neg (fun h => (by cases h)), if_neg (fun h => (by cases h))]
    show p = ((0 : Int), (0 : Int) + p.2.1, (0 : Int) + p.2.2)
    obtain ⟨p1, p2, p3⟩ := p
    have h0 : p1 = 0 := h0
    rw [h0, Int.zero_add, Int.zero_add]
theorem cutS_in {l : List Ro} {W L : Int} (reg : Reg l W L) : ∀ (n : Nat) (id : Int) (c : Ch), Anc l n id → cutS l W L n id = (c, 0) → CutIn l W L id c n := by
  intro n
  have hw := reg.w
  induction n with
  | zero =>
    intro id c ha hc
    by_cases h0 : id = 0
    · cases hc; rw [h0]; exact base_in reg 0
    · obtain ⟨_, _, e, _⟩ := ha.cases h0
      cases e
  | succ n ih =>
    intro id c ha hc
    by_cases h0 : id = 0
    · unfold cutS at hc
      rw [if_pos h0] at hc
      cases hc; rw [h0]; exact base_in reg _
    · obtain ⟨k, r, ek, e, a⟩ := ha.cases h0
      cases ek
      have ro := reg.ok.ro r (look_some e).1
      obtain ⟨c1, c2, c3, c4, c5, c6, c7⟩ := ro.cut
      unfold cutS at hc
      rw [if_neg h0, e] at hc
      have hc : cutJ r (cutS l W L n r.2.1) = (c, 0) := hc
      obtain ⟨oc, oe⟩ : ∃ oc, cutS l W L n r.2.1 = oc := ⟨_, rfl⟩
      rw [oe] at hc
      unfold cutJ at hc
      by_cases h1 : oc.2 = 0
      · rw [if_neg (fun h : oc.2 ≠ 0 => h h1)] at hc
        obtain ⟨i1, i2, i3, i4, i5, i6⟩ := ih r.2.1 oc.1 a (by rw [oe, ← h1])
        obtain ⟨cm, ce⟩ : ∃ cm, comp r.2.2.2.2.2 oc.1.2.2.2 = cm := ⟨_, rfl⟩
        rw [ce] at hc
        by_cases h2 : cm.2 = 0
        · rw [if_neg (fun h : cm.2 ≠ 0 => h h2)] at hc
          obtain ⟨_, _, _, k1, k2, k3⟩ := comp_spec (m := cm.1) (by rw [ce, ← h2])
          have hs := reg.small n r.2.1 a
          rw [wrap_id (i := oc.1.1 + oc.1.2.1) (by omega) (by omega), wrap_id (i := oc.1.1 + oc.1.2.1 - r.2.2.1) (by omega) (by omega), wrap_id (i := oc.1.1 + oc.1.2.1 - r.2.2.1 - r.2.2.2.1) (by omega) (by omega), wrap_id (i := oc.1.1 + r.2.2.1) (by omega) (by omega)] at hc
          have hc1 := congrArg Prod.fst hc
          have hc1 : ((if oc.1.2.2.1 = true then oc.1.1 + oc.1.2.1 - r.2.2.1 - r.2.2.2.1 else oc.1.1 + r.2.2.1), r.2.2.2.1, !(oc.1.2.2.1 == r.2.2.2.2.1), cm.1) = c := hc1
          subst hc1
          have hsz := size_some (W := W) (L := L) h0 e
          refine ⟨?_, ?_, ?_, k1, ?_, ?_⟩
          · show 0 ≤ (if oc.1.2.2.1 = true then _ else _ : Int)
            split <;> omega
          · show (if oc.1.2.2.1 = true then _ else _ : Int) + r.2.2.2.1 ≤ W
            split <;> omega
          · rw [hsz]
          · rw [hsz]; exact k2
          · intro p hp on
            have on2 := on.place (by rw [hp]; exact h0) (by rw [hp]; exact e) ro
            rw [webS_step (by rw [hp]; exact h0) (by rw [hp]; exact e), i6 (placeS r p) rfl on2]
            obtain ⟨a0, a1, b0, b1⟩ := on
            rw [hp, hsz] at a1 b1
            have b1 : p.2.2 < lenS r.2.2.2.2.2 := b1
            have e3 : imgAt oc.1.2.2.2 (placeS r p).2.2 = imgAt cm.1 p.2.2 := (k3 p.2.2 b0 b1).symm
            rw [e3]
            have e4 : acrS oc.1 (placeS r p).2.1 = acrS ((if oc.1.2.2.1 = true then oc.1.1 + oc.1.2.1 - r.2.2.1 - r.2.2.2.1 else oc.1.1 + r.2.2.1), r.2.2.2.1, !(oc.1.2.2.1 == r.2.2.2.2.1), cm.1) p.2.1 := by
              unfold acrS placeS
              cases oc.1.2.2.1 <;> cases r.2.2.2.2.1 <;> simp <;> omega
            rw [e4]
        · rw [if_pos h2] at hc
          exact absurd (congrArg Prod.snd hc) h2
      · rw [if_pos h1] at hc
        exact absurd (congrArg Prod.snd hc) h1
end Go.AM
namespace Go.AM
open Go Go.Proofs

end Go.AM
namespace Go.AM
open Go Go.Proofs

theorem Okp.pairs {W L : Int} {l : List Ro} (h : Okp W L l) : l.Pairwise (fun b r => r.2.1 = b.2.1 → ovlS r.2.2 b.2.2 = false) := by
  induction h with
  | nil => exact List.Pairwise.nil
  | snoc p r h f n c ih =>
    refine List.pairwise_append.2 ⟨ih, List.pairwise_singleton _ _, fun b hb q hq e => ?_⟩
    rw [List.mem_singleton] at hq
    subst hq
    unfold clash at c
    rw [List.any_eq_false] at c
    have := c b hb
    rw [beq_iff_eq.2 e, Bool.true_and] at this
    simpa using this
end Go.AM
namespace Go.AM
open Go Go.Proofs Go.IntKind
set_option linter.unusedVariables false
noncomputable section
end
end Go.AM
namespace Go.AM
open Go Go.Proofs Go.IntKind
set_option linter.unusedVariables false
noncomputable section
abbrev R_u48 : Type := Bool
def res_u48 (r : R_u48) : AV := .r (.v (.bool r))
def bo_u48 (x_ : T3.T) (p_ : T4.T) (r : R_u48) : List (Nat × Blk) := []
def args_u48 (x_ : T3.T) (p_ : T4.T) : List AV := [.agg (rvs (enc T3 x_)), .agg (rvs (enc T4 p_))]
def bin_u48 (x_ : T3.T) (p_ : T4.T) : List Blk := []
def f_u48 (k : Nat) (x_ : T3.T) (p_ : T4.T) : Option R_u48 :=
 bif (v_u50 k x_) then
 if ((f_u50 k x_).isSome = true) ∧ (v_u50 k x_ = true) then
 if ((f_u49 k ).isSome = true) then
 some (v_u49 k)
 else none
 else none
 else
 if ((f_u50 k x_).isSome = true) ∧ (v_u50 k x_ = false) ∧ ((f_u4 k x_.1 x_.2.1 x_.2.2).isSome = true) then
 bif (false || v_u4 k x_.1 x_.2.1 x_.2.2 != (0 : Int)) then
 if ((f_u49 k ).isSome = true) then
 some (v_u49 k)
 else none
 else
 if ((f_u52 k x_).isSome = true) ∧ ((f_u10 k x_.1 (v_u52 k x_) p_).isSome = true) then
 if ((f_u52 k x_).isSome = true) ∧ ((f_u5 k x_.1 (v_u52 k x_) p_.1).isSome = true) then
 bif ((v_u10 k x_.1 (v_u52 k x_) p_).2 != (0 : Int) || (v_u5 k x_.1 (v_u52 k x_) p_.1).2 != (0 : Int)) then
 if ((f_u49 k ).isSome = true) then
 some (v_u49 k)
 else none
 else
 bif (v_u5 k x_.1 (v_u52 k x_) p_.1).1.2.2.1 then
 if ((f_u29 k (v_u5 k x_.1 (v_u52 k x_) p_.1).1.2.2.2 p_.2.2).isSome = true) then
 bif ((v_u29 k (v_u5 k x_.1 (v_u52 k x_) p_.1).1.2.2.2 p_.2.2).2 != (0 : Int) || (!eqT T4 (v_u10 k x_.1 (v_u52 k x_) p_).1 ((0 : Int), i64.wrap (i64.wrap (i64.wrap ((v_u5 k x_.1 (v_u52 k x_) p_.1).1.1 + (v_u5 k x_.1 (v_u52 k x_) p_.1).1.2.1) - (1 : Int)) - p_.2.1), (v_u29 k (v_u5 k x_.1 (v_u52 k x_) p_.1).1.2.2.2 p_.2.2).1))) then
 some false
 else
 bif (p_.1 == (0 : Int)) then
 bif (eqT T4 (v_u10 k x_.1 (v_u52 k x_) p_).1 p_) then
 if (eqT T4 (v_u10 k x_.1 (v_u52 k x_) p_).1 p_ = true) ∧ ((f_u49 k ).isSome = true) then
 some (true && v_u49 k)
 else none
 else
 if (eqT T4 (v_u10 k x_.1 (v_u52 k x_) p_).1 p_ = false) then
 some false
 else none
 else
 if ((f_u52 k x_).isSome = true) ∧ ((f_u9 k x_.1 (v_u52 k x_) p_).isSome = true) then
 bif ((v_u9 k x_.1 (v_u52 k x_) p_).2 != (0 : Int)) then
 some false
 else
 if ((f_u52 k x_).isSome = true) ∧ ((f_u10 k x_.1 (v_u52 k x_) (v_u9 k x_.1 (v_u52 k x_) p_).1).isSome = true) then
 bif ((v_u10 k x_.1 (v_u52 k x_) (v_u9 k x_.1 (v_u52 k x_) p_).1).2 == (0 : Int) && eqT T4 (v_u10 k x_.1 (v_u52 k x_) (v_u9 k x_.1 (v_u52 k x_) p_).1).1 (v_u10 k x_.1 (v_u52 k x_) p_).1) then
 if (((v_u10 k x_.1 (v_u52 k x_) (v_u9 k x_.1 (v_u52 k x_) p_).1).2 == (0 : Int) && eqT T4 (v_u10 k x_.1 (v_u52 k x_) (v_u9 k x_.1 (v_u52 k x_) p_).1).1 (v_u10 k x_.1 (v_u52 k x_) p_).1) = true) ∧ ((f_u49 k ).isSome = true) then
 some (true && v_u49 k)
 else none
 else
 if (((v_u10 k x_.1 (v_u52 k x_) (v_u9 k x_.1 (v_u52 k x_) p_).1).2 == (0 : Int) && eqT T4 (v_u10 k x_.1 (v_u52 k x_) (v_u9 k x_.1 (v_u52 k x_) p_).1).1 (v_u10 k x_.1 (v_u52 k x_) p_).1) = false) then
 some false
 else none
 else none
 else none
 else none
 else
 if ((f_u29 k (v_u5 k x_.1 (v_u52 k x_) p_.1).1.2.2.2 p_.2.2).isSome = true) then
 bif ((v_u29 k (v_u5 k x_.1 (v_u52 k x_) p_.1).1.2.2.2 p_.2.2).2 != (0 : Int) || (!eqT T4 (v_u10 k x_.1 (v_u52 k x_) p_).1 ((0 : Int), i64.wrap ((v_u5 k x_.1 (v_u52 k x_) p_.1).1.1 + p_.2.1), (v_u29 k (v_u5 k x_.1 (v_u52 k x_) p_.1).1.2.2.2 p_.2.2).1))) then
 some false
 else
 bif (p_.1 == (0 : Int)) then
 bif (eqT T4 (v_u10 k x_.1 (v_u52 k x_) p_).1 p_) then
 if (eqT T4 (v_u10 k x_.1 (v_u52 k x_) p_).1 p_ = true) ∧ ((f_u49 k ).isSome = true) then
 some (true && v_u49 k)
 else none
 else
 if (eqT T4 (v_u10 k x_.1 (v_u52 k x_) p_).1 p_ = false) then
 some false
 else none
 else
 if ((f_u52 k x_).isSome = true) ∧ ((f_u9 k x_.1 (v_u52 k x_) p_).isSome = true) then
 bif ((v_u9 k x_.1 (v_u52 k x_) p_).2 != (0 : Int)) then
 some false
 else
 if ((f_u52 k x_).isSome = true) ∧ ((f_u10 k x_.1 (v_u52 k x_) (v_u9 k x_.1 (v_u52 k x_) p_).1).isSome = true) then
 bif ((v_u10 k x_.1 (v_u52 k x_) (v_u9 k x_.1 (v_u52 k x_) p_).1).2 == (0 : Int) && eqT T4 (v_u10 k x_.1 (v_u52 k x_) (v_u9 k x_.1 (v_u52 k x_) p_).1).1 (v_u10 k x_.1 (v_u52 k x_) p_).1) then
 if (((v_u10 k x_.1 (v_u52 k x_) (v_u9 k x_.1 (v_u52 k x_) p_).1).2 == (0 : Int) && eqT T4 (v_u10 k x_.1 (v_u52 k x_) (v_u9 k x_.1 (v_u52 k x_) p_).1).1 (v_u10 k x_.1 (v_u52 k x_) p_).1) = true) ∧ ((f_u49 k ).isSome = true) then
 some (true && v_u49 k)
 else none
 else
 if (((v_u10 k x_.1 (v_u52 k x_) (v_u9 k x_.1 (v_u52 k x_) p_).1).2 == (0 : Int) && eqT T4 (v_u10 k x_.1 (v_u52 k x_) (v_u9 k x_.1 (v_u52 k x_) p_).1).1 (v_u10 k x_.1 (v_u52 k x_) p_).1) = false) then
 some false
 else none
 else none
 else none
 else none
 else none
 else none
 else none
def K_u48 (k : Nat) : Calld := ⟨fun g xs => match g with
 | 6 => match xs with
  | [_] => some [false]
  | _ => none
 | 7 => match xs with
  | [_, _, _] => some [false, false, false]
  | _ => none
 | 12 => match xs with
  | [_, _] => some [false, false]
  | _ => none
 | 9 => match xs with
  | [_, _, _] => some [false, false, false]
  | _ => none
 | 10 => match xs with
  | [_] => some [false]
  | _ => none
 | 11 => match xs with
  | [_, _, _] => some [false, false, false]
  | _ => none
 | 13 => match xs with
  | [_, _, _] => some [false, false, false]
  | _ => none
 | 8 => match xs with
  | [] => some []
  | _ => none
 | _ => none, fun g xs bs => match g with
 | 6 => match xs, bs with
  | [.agg qx_], [] => (decS [] T3 qx_).bind fun x_ => some (.one (res_u50 (v_u50 k x_), bo_u50 x_ (v_u50 k x_)))
  | _, _ => none
 | 7 => match xs, bs with
  | [.r (.ro tl__ ql_), .r (.v (.int .i64 width_)), .r (.v (.int .i64 length_))], [] => (castL tl__ T2 ql_).bind fun l_ => some (.one (res_u4 (v_u4 k l_ width_ length_), bo_u4 l_ width_ length_ (v_u4 k l_ width_ length_)))
  | _, _ => none
 | 12 => match xs, bs with
  | [.r (.ro tm__ qm_), .r (.v (.int .i64 x_))], [] => (castL tm__ T0 qm_).bind fun m_ => some (.one (res_u29 (v_u29 k m_ x_), bo_u29 m_ x_ (v_u29 k m_ x_)))
  | _, _ => none
 | 9 => match xs, bs with
  | [.r (.ro tl__ ql_), .agg qweb_, .agg qp_], [] => (castL tl__ T2 ql_).bind fun l_ => (decS [] T5 qweb_).bind fun web_ => (decS [] T4 qp_).bind fun p_ => some (.one (res_u10 (v_u10 k l_ web_ p_), bo_u10 l_ web_ p_ (v_u10 k l_ web_ p_)))
  | _, _ => none
 | 10 => match xs, bs with
  | [.agg qx_], [] => (decS [] T3 qx_).bind fun x_ => some (.one (res_u52 (v_u52 k x_), bo_u52 x_ (v_u52 k x_)))
  | _, _ => none
 | 11 => match xs, bs with
  | [.r (.ro tl__ ql_), .agg qweb_, .r (.v (.int .i64 id_))], [] => (castL tl__ T2 ql_).bind fun l_ => (decS [] T5 qweb_).bind fun web_ => some (.one (res_u5 (v_u5 k l_ web_ id_), bo_u5 l_ web_ id_ (v_u5 k l_ web_ id_)))
  | _, _ => none
 | 13 => match xs, bs with
  | [.r (.ro tl__ ql_), .agg qweb_, .agg qp_], [] => (castL tl__ T2 ql_).bind fun l_ => (decS [] T5 qweb_).bind fun web_ => (decS [] T4 qp_).bind fun p_ => some (.one (res_u9 (v_u9 k l_ web_ p_), bo_u9 l_ web_ p_ (v_u9 k l_ web_ p_)))
  | _, _ => none
 | 8 => match xs, bs with
  | [], [] => some (.one (res_u49 (v_u49 k ), bo_u49  (v_u49 k )))
  | _, _ => none
 | _ => none⟩
theorem of_u48 (k : Nat) (x_ : T3.T) (p_ : T4.T) (r : R_u48) (h : f_u48 k x_ p_ = some r) : CC Try.prog 3 (args_u48 x_ p_) (bin_u48 x_ p_) (res_u48 r) (bo_u48 x_ p_ r) := by
 refine CC.of (fn := Try.f3) (by kernel_rfl) (by kernel_rfl) (by kernel_rfl) (by kernel_rfl) ?_
 unfold f_u48 at h
 refine Ev.tree hm (R := Rt) (K := (K_u48 k)) (l := []) (C := []) (E := [.autoB [4] true []]) (n := 1000) (T := .test ((v_u50 k x_)) (.need [CC Try.prog 6 (args_u50 x_) (bin_u50 x_) (res_u50 (v_u50 k x_)) (bo_u50 x_ (v_u50 k x_)), v_u50 k x_ = true] (.test (true) (.need [CC Try.prog 8 (args_u49 ) (bin_u49 ) (res_u49 (v_u49 k )) (bo_u49  (v_u49 k ))] (.leaf (res_u48 (v_u49 k)) (bo_u48 x_ p_ (v_u49 k)))) (.need [CC Try.prog 10 (args_u52 x_) (bin_u52 x_) (res_u52 (v_u52 k x_)) (bo_u52 x_ (v_u52 k x_)), CC Try.prog 9 (args_u10 x_.1 (v_u52 k x_) p_) (bin_u10 x_.1 (v_u52 k x_) p_) (res_u10 (v_u10 k x_.1 (v_u52 k x_) p_)) (bo_u10 x_.1 (v_u52 k x_) p_ (v_u10 k x_.1 (v_u52 k x_) p_))] (.need [CC Try.prog 10 (args_u52 x_) (bin_u52 x_) (res_u52 (v_u52 k x_)) (bo_u52 x_ (v_u52 k x_)), CC Try.prog 11 (args_u5 x_.1 (v_u52 k x_) p_.1) (bin_u5 x_.1 (v_u52 k x_) p_.1) (res_u5 (v_u5 k x_.1 (v_u52 k x_) p_.1)) (bo_u5 x_.1 (v_u52 k x_) p_.1 (v_u5 k x_.1 (v_u52 k x_) p_.1))] (.test (((v_u10 k x_.1 (v_u52 k x_) p_).2 != (0 : Int) || (v_u5 k x_.1 (v_u52 k x_) p_.1).2 != (0 : Int))) (.need [CC Try.prog 8 (args_u49 ) (bin_u49 ) (res_u49 (v_u49 k )) (bo_u49  (v_u49 k ))] (.leaf (.r (.v (.bool ((v_u49 k))))) [])) (.test ((v_u5 k x_.1 (v_u52 k x_) p_.1).1.2.2.1) (.need [CC Try.prog 12 (args_u29 (v_u5 k x_.1 (v_u52 k x_) p_.1).1.2.2.2 p_.2.2) (bin_u29 (v_u5 k x_.1 (v_u52 k x_) p_.1).1.2.2.2 p_.2.2) (res_u29 (v_u29 k (v_u5 k x_.1 (v_u52 k x_) p_.1).1.2.2.2 p_.2.2)) (bo_u29 (v_u5 k x_.1 (v_u52 k x_) p_.1).1.2.2.2 p_.2.2 (v_u29 k (v_u5 k x_.1 (v_u52 k x_) p_.1).1.2.2.2 p_.2.2))] (.test (((v_u29 k (v_u5 k x_.1 (v_u52 k x_) p_.1).1.2.2.2 p_.2.2).2 != (0 : Int) || (!eqT T4 (v_u10 k x_.1 (v_u52 k x_) p_).1 ((0 : Int), i64.wrap (i64.wrap (i64.wrap ((v_u5 k x_.1 (v_u52 k x_) p_.1).1.1 + (v_u5 k x_.1 (v_u52 k x_) p_.1).1.2.1) - (1 : Int)) - p_.2.1), (v_u29 k (v_u5 k x_.1 (v_u52 k x_) p_.1).1.2.2.2 p_.2.2).1)))) (.leaf (.r (.v (.bool false))) []) (.test ((p_.1 == (0 : Int))) (.test ((eqT T4 (v_u10 k x_.1 (v_u52 k x_) p_).1 p_)) (.need [eqT T4 (v_u10 k x_.1 (v_u52 k x_) p_).1 p_ = true, CC Try.prog 8 (args_u49 ) (bin_u49 ) (res_u49 (v_u49 k )) (bo_u49  (v_u49 k ))] (.leaf (.r (.v (.bool ((true && v_u49 k))))) [])) (.need [eqT T4 (v_u10 k x_.1 (v_u52 k x_) p_).1 p_ = false] (.leaf (.r (.v (.bool false))) []))) (.need [CC Try.prog 10 (args_u52 x_) (bin_u52 x_) (res_u52 (v_u52 k x_)) (bo_u52 x_ (v_u52 k x_)), CC Try.prog 13 (args_u9 x_.1 (v_u52 k x_) p_) (bin_u9 x_.1 (v_u52 k x_) p_) (res_u9 (v_u9 k x_.1 (v_u52 k x_) p_)) (bo_u9 x_.1 (v_u52 k x_) p_ (v_u9 k x_.1 (v_u52 k x_) p_))] (.test (((v_u9 k x_.1 (v_u52 k x_) p_).2 != (0 : Int))) (.leaf (.r (.v (.bool false))) []) (.need [CC Try.prog 10 (args_u52 x_) (bin_u52 x_) (res_u52 (v_u52 k x_)) (bo_u52 x_ (v_u52 k x_)), CC Try.prog 9 (args_u10 x_.1 (v_u52 k x_) (v_u9 k x_.1 (v_u52 k x_) p_).1) (bin_u10 x_.1 (v_u52 k x_) (v_u9 k x_.1 (v_u52 k x_) p_).1) (res_u10 (v_u10 k x_.1 (v_u52 k x_) (v_u9 k x_.1 (v_u52 k x_) p_).1)) (bo_u10 x_.1 (v_u52 k x_) (v_u9 k x_.1 (v_u52 k x_) p_).1 (v_u10 k x_.1 (v_u52 k x_) (v_u9 k x_.1 (v_u52 k x_) p_).1))] (.test (((v_u10 k x_.1 (v_u52 k x_) (v_u9 k x_.1 (v_u52 k x_) p_).1).2 == (0 : Int) && eqT T4 (v_u10 k x_.1 (v_u52 k x_) (v_u9 k x_.1 (v_u52 k x_) p_).1).1 (v_u10 k x_.1 (v_u52 k x_) p_).1)) (.need [((v_u10 k x_.1 (v_u52 k x_) (v_u9 k x_.1 (v_u52 k x_) p_).1).2 == (0 : Int) && eqT T4 (v_u10 k x_.1 (v_u52 k x_) (v_u9 k x_.1 (v_u52 k x_) p_).1).1 (v_u10 k x_.1 (v_u52 k x_) p_).1) = true, CC Try.prog 8 (args_u49 ) (bin_u49 ) (res_u49 (v_u49 k )) (bo_u49  (v_u49 k ))] (.leaf (.r (.v (.bool ((true && v_u49 k))))) [])) (.need [((v_u10 k x_.1 (v_u52 k x_) (v_u9 k x_.1 (v_u52 k x_) p_).1).2 == (0 : Int) && eqT T4 (v_u10 k x_.1 (v_u52 k x_) (v_u9 k x_.1 (v_u52 k x_) p_).1).1 (v_u10 k x_.1 (v_u52 k x_) p_).1) = false] (.leaf (.r (.v (.bool false))) []))))))))) (.need [CC Try.prog 12 (args_u29 (v_u5 k x_.1 (v_u52 k x_) p_.1).1.2.2.2 p_.2.2) (bin_u29 (v_u5 k x_.1 (v_u52 k x_) p_.1).1.2.2.2 p_.2.2) (res_u29 (v_u29 k (v_u5 k x_.1 (v_u52 k x_) p_.1).1.2.2.2 p_.2.2)) (bo_u29 (v_u5 k x_.1 (v_u52 k x_) p_.1).1.2.2.2 p_.2.2 (v_u29 k (v_u5 k x_.1 (v_u52 k x_) p_.1).1.2.2.2 p_.2.2))] (.test (((v_u29 k (v_u5 k x_.1 (v_u52 k x_) p_.1).1.2.2.2 p_.2.2).2 != (0 : Int) || (!eqT T4 (v_u10 k x_.1 (v_u52 k x_) p_).1 ((0 : Int), i64.wrap ((v_u5 k x_.1 (v_u52 k x_) p_.1).1.1 + p_.2.1), (v_u29 k (v_u5 k x_.1 (v_u52 k x_) p_.1).1.2.2.2 p_.2.2).1)))) (.leaf (.r (.v (.bool false))) []) (.test ((p_.1 == (0 : Int))) (.test ((eqT T4 (v_u10 k x_.1 (v_u52 k x_) p_).1 p_)) (.need [eqT T4 (v_u10 k x_.1 (v_u52 k x_) p_).1 p_ = true, CC Try.prog 8 (args_u49 ) (bin_u49 ) (res_u49 (v_u49 k )) (bo_u49  (v_u49 k ))] (.leaf (.r (.v (.bool ((true && v_u49 k))))) [])) (.need [eqT T4 (v_u10 k x_.1 (v_u52 k x_) p_).1 p_ = false] (.leaf (.r (.v (.bool false))) []))) (.need [CC Try.prog 10 (args_u52 x_) (bin_u52 x_) (res_u52 (v_u52 k x_)) (bo_u52 x_ (v_u52 k x_)), CC Try.prog 13 (args_u9 x_.1 (v_u52 k x_) p_) (bin_u9 x_.1 (v_u52 k x_) p_) (res_u9 (v_u9 k x_.1 (v_u52 k x_) p_)) (bo_u9 x_.1 (v_u52 k x_) p_ (v_u9 k x_.1 (v_u52 k x_) p_))] (.test (((v_u9 k x_.1 (v_u52 k x_) p_).2 != (0 : Int))) (.leaf (.r (.v (.bool false))) []) (.need [CC Try.prog 10 (args_u52 x_) (bin_u52 x_) (res_u52 (v_u52 k x_)) (bo_u52 x_ (v_u52 k x_)), CC Try.prog 9 (args_u10 x_.1 (v_u52 k x_) (v_u9 k x_.1 (v_u52 k x_) p_).1) (bin_u10 x_.1 (v_u52 k x_) (v_u9 k x_.1 (v_u52 k x_) p_).1) (res_u10 (v_u10 k x_.1 (v_u52 k x_) (v_u9 k x_.1 (v_u52 k x_) p_).1)) (bo_u10 x_.1 (v_u52 k x_) (v_u9 k x_.1 (v_u52 k x_) p_).1 (v_u10 k x_.1 (v_u52 k x_) (v_u9 k x_.1 (v_u52 k x_) p_).1))] (.test (((v_u10 k x_.1 (v_u52 k x_) (v_u9 k x_.1 (v_u52 k x_) p_).1).2 == (0 : Int) && eqT T4 (v_u10 k x_.1 (v_u52 k x_) (v_u9 k x_.1 (v_u52 k x_) p_).1).1 (v_u10 k x_.1 (v_u52 k x_) p_).1)) (.need [((v_u10 k x_.1 (v_u52 k x_) (v_u9 k x_.1 (v_u52 k x_) p_).1).2 == (0 : Int) && eqT T4 (v_u10 k x_.1 (v_u52 k x_) (v_u9 k x_.1 (v_u52 k x_) p_).1).1 (v_u10 k x_.1 (v_u52 k x_) p_).1) = true, CC Try.prog 8 (args_u49 ) (bin_u49 ) (res_u49 (v_u49 k )) (bo_u49  (v_u49 k ))] (.leaf (.r (.v (.bool ((true && v_u49 k))))) [])) (.need [((v_u10 k x_.1 (v_u52 k x_) (v_u9 k x_.1 (v_u52 k x_) p_).1).2 == (0 : Int) && eqT T4 (v_u10 k x_.1 (v_u52 k x_) (v_u9 k x_.1 (v_u52 k x_) p_).1).1 (v_u10 k x_.1 (v_u52 k x_) p_).1) = false] (.leaf (.r (.v (.bool false))) []))))))))))))))) (.need [CC Try.prog 6 (args_u50 x_) (bin_u50 x_) (res_u50 (v_u50 k x_)) (bo_u50 x_ (v_u50 k x_)), v_u50 k x_ = false, CC Try.prog 7 (args_u4 x_.1 x_.2.1 x_.2.2) (bin_u4 x_.1 x_.2.1 x_.2.2) (res_u4 (v_u4 k x_.1 x_.2.1 x_.2.2)) (bo_u4 x_.1 x_.2.1 x_.2.2 (v_u4 k x_.1 x_.2.1 x_.2.2))] (.test ((false || v_u4 k x_.1 x_.2.1 x_.2.2 != (0 : Int))) (.need [CC Try.prog 8 (args_u49 ) (bin_u49 ) (res_u49 (v_u49 k )) (bo_u49  (v_u49 k ))] (.leaf (res_u48 (v_u49 k)) (bo_u48 x_ p_ (v_u49 k)))) (.need [CC Try.prog 10 (args_u52 x_) (bin_u52 x_) (res_u52 (v_u52 k x_)) (bo_u52 x_ (v_u52 k x_)), CC Try.prog 9 (args_u10 x_.1 (v_u52 k x_) p_) (bin_u10 x_.1 (v_u52 k x_) p_) (res_u10 (v_u10 k x_.1 (v_u52 k x_) p_)) (bo_u10 x_.1 (v_u52 k x_) p_ (v_u10 k x_.1 (v_u52 k x_) p_))] (.need [CC Try.prog 10 (args_u52 x_) (bin_u52 x_) (res_u52 (v_u52 k x_)) (bo_u52 x_ (v_u52 k x_)), CC Try.prog 11 (args_u5 x_.1 (v_u52 k x_) p_.1) (bin_u5 x_.1 (v_u52 k x_) p_.1) (res_u5 (v_u5 k x_.1 (v_u52 k x_) p_.1)) (bo_u5 x_.1 (v_u52 k x_) p_.1 (v_u5 k x_.1 (v_u52 k x_) p_.1))] (.test (((v_u10 k x_.1 (v_u52 k x_) p_).2 != (0 : Int) || (v_u5 k x_.1 (v_u52 k x_) p_.1).2 != (0 : Int))) (.need [CC Try.prog 8 (args_u49 ) (bin_u49 ) (res_u49 (v_u49 k )) (bo_u49  (v_u49 k ))] (.leaf (res_u48 (v_u49 k)) (bo_u48 x_ p_ (v_u49 k)))) (.test ((v_u5 k x_.1 (v_u52 k x_) p_.1).1.2.2.1) (.need [CC Try.prog 12 (args_u29 (v_u5 k x_.1 (v_u52 k x_) p_.1).1.2.2.2 p_.2.2) (bin_u29 (v_u5 k x_.1 (v_u52 k x_) p_.1).1.2.2.2 p_.2.2) (res_u29 (v_u29 k (v_u5 k x_.1 (v_u52 k x_) p_.1).1.2.2.2 p_.2.2)) (bo_u29 (v_u5 k x_.1 (v_u52 k x_) p_.1).1.2.2.2 p_.2.2 (v_u29 k (v_u5 k x_.1 (v_u52 k x_) p_.1).1.2.2.2 p_.2.2))] (.test (((v_u29 k (v_u5 k x_.1 (v_u52 k x_) p_.1).1.2.2.2 p_.2.2).2 != (0 : Int) || (!eqT T4 (v_u10 k x_.1 (v_u52 k x_) p_).1 ((0 : Int), i64.wrap (i64.wrap (i64.wrap ((v_u5 k x_.1 (v_u52 k x_) p_.1).1.1 + (v_u5 k x_.1 (v_u52 k x_) p_.1).1.2.1) - (1 : Int)) - p_.2.1), (v_u29 k (v_u5 k x_.1 (v_u52 k x_) p_.1).1.2.2.2 p_.2.2).1)))) (.leaf (res_u48 false) (bo_u48 x_ p_ false)) (.test ((p_.1 == (0 : Int))) (.test ((eqT T4 (v_u10 k x_.1 (v_u52 k x_) p_).1 p_)) (.need [eqT T4 (v_u10 k x_.1 (v_u52 k x_) p_).1 p_ = true, CC Try.prog 8 (args_u49 ) (bin_u49 ) (res_u49 (v_u49 k )) (bo_u49  (v_u49 k ))] (.leaf (res_u48 (true && v_u49 k)) (bo_u48 x_ p_ (true && v_u49 k)))) (.need [eqT T4 (v_u10 k x_.1 (v_u52 k x_) p_).1 p_ = false] (.leaf (res_u48 false) (bo_u48 x_ p_ false)))) (.need [CC Try.prog 10 (args_u52 x_) (bin_u52 x_) (res_u52 (v_u52 k x_)) (bo_u52 x_ (v_u52 k x_)), CC Try.prog 13 (args_u9 x_.1 (v_u52 k x_) p_) (bin_u9 x_.1 (v_u52 k x_) p_) (res_u9 (v_u9 k x_.1 (v_u52 k x_) p_)) (bo_u9 x_.1 (v_u52 k x_) p_ (v_u9 k x_.1 (v_u52 k x_) p_))] (.test (((v_u9 k x_.1 (v_u52 k x_) p_).2 != (0 : Int))) (.leaf (res_u48 false) (bo_u48 x_ p_ false)) (.need [CC Try.prog 10 (args_u52 x_) (bin_u52 x_) (res_u52 (v_u52 k x_)) (bo_u52 x_ (v_u52 k x_)), CC Try.prog 9 (args_u10 x_.1 (v_u52 k x_) (v_u9 k x_.1 (v_u52 k x_) p_).1) (bin_u10 x_.1 (v_u52 k x_) (v_u9 k x_.1 (v_u52 k x_) p_).1) (res_u10 (v_u10 k x_.1 (v_u52 k x_) (v_u9 k x_.1 (v_u52 k x_) p_).1)) (bo_u10 x_.1 (v_u52 k x_) (v_u9 k x_.1 (v_u52 k x_) p_).1 (v_u10 k x_.1 (v_u52 k x_) (v_u9 k x_.1 (v_u52 k x_) p_).1))] (.test (((v_u10 k x_.1 (v_u52 k x_) (v_u9 k x_.1 (v_u52 k x_) p_).1).2 == (0 : Int) && eqT T4 (v_u10 k x_.1 (v_u52 k x_) (v_u9 k x_.1 (v_u52 k x_) p_).1).1 (v_u10 k x_.1 (v_u52 k x_) p_).1)) (.need [((v_u10 k x_.1 (v_u52 k x_) (v_u9 k x_.1 (v_u52 k x_) p_).1).2 == (0 : Int) && eqT T4 (v_u10 k x_.1 (v_u52 k x_) (v_u9 k x_.1 (v_u52 k x_) p_).1).1 (v_u10 k x_.1 (v_u52 k x_) p_).1) = true, CC Try.prog 8 (args_u49 ) (bin_u49 ) (res_u49 (v_u49 k )) (bo_u49  (v_u49 k ))] (.leaf (res_u48 (true && v_u49 k)) (bo_u48 x_ p_ (true && v_u49 k)))) (.need [((v_u10 k x_.1 (v_u52 k x_) (v_u9 k x_.1 (v_u52 k x_) p_).1).2 == (0 : Int) && eqT T4 (v_u10 k x_.1 (v_u52 k x_) (v_u9 k x_.1 (v_u52 k x_) p_).1).1 (v_u10 k x_.1 (v_u52 k x_) p_).1) = false] (.leaf (res_u48 false) (bo_u48 x_ p_ false)))))))))) (.need [CC Try.prog 12 (args_u29 (v_u5 k x_.1 (v_u52 k x_) p_.1).1.2.2.2 p_.2.2) (bin_u29 (v_u5 k x_.1 (v_u52 k x_) p_.1).1.2.2.2 p_.2.2) (res_u29 (v_u29 k (v_u5 k x_.1 (v_u52 k x_) p_.1).1.2.2.2 p_.2.2)) (bo_u29 (v_u5 k x_.1 (v_u52 k x_) p_.1).1.2.2.2 p_.2.2 (v_u29 k (v_u5 k x_.1 (v_u52 k x_) p_.1).1.2.2.2 p_.2.2))] (.test (((v_u29 k (v_u5 k x_.1 (v_u52 k x_) p_.1).1.2.2.2 p_.2.2).2 != (0 : Int) || (!eqT T4 (v_u10 k x_.1 (v_u52 k x_) p_).1 ((0 : Int), i64.wrap ((v_u5 k x_.1 (v_u52 k x_) p_.1).1.1 + p_.2.1), (v_u29 k (v_u5 k x_.1 (v_u52 k x_) p_.1).1.2.2.2 p_.2.2).1)))) (.leaf (res_u48 false) (bo_u48 x_ p_ false)) (.test ((p_.1 == (0 : Int))) (.test ((eqT T4 (v_u10 k x_.1 (v_u52 k x_) p_).1 p_)) (.need [eqT T4 (v_u10 k x_.1 (v_u52 k x_) p_).1 p_ = true, CC Try.prog 8 (args_u49 ) (bin_u49 ) (res_u49 (v_u49 k )) (bo_u49  (v_u49 k ))] (.leaf (res_u48 (true && v_u49 k)) (bo_u48 x_ p_ (true && v_u49 k)))) (.need [eqT T4 (v_u10 k x_.1 (v_u52 k x_) p_).1 p_ = false] (.leaf (res_u48 false) (bo_u48 x_ p_ false)))) (.need [CC Try.prog 10 (args_u52 x_) (bin_u52 x_) (res_u52 (v_u52 k x_)) (bo_u52 x_ (v_u52 k x_)), CC Try.prog 13 (args_u9 x_.1 (v_u52 k x_) p_) (bin_u9 x_.1 (v_u52 k x_) p_) (res_u9 (v_u9 k x_.1 (v_u52 k x_) p_)) (bo_u9 x_.1 (v_u52 k x_) p_ (v_u9 k x_.1 (v_u52 k x_) p_))] (.test (((v_u9 k x_.1 (v_u52 k x_) p_).2 != (0 : Int))) (.leaf (res_u48 false) (bo_u48 x_ p_ false)) (.need [CC Try.prog 10 (args_u52 x_) (bin_u52 x_) (res_u52 (v_u52 k x_)) (bo_u52 x_ (v_u52 k x_)), CC Try.prog 9 (args_u10 x_.1 (v_u52 k x_) (v_u9 k x_.1 (v_u52 k x_) p_).1) (bin_u10 x_.1 (v_u52 k x_) (v_u9 k x_.1 (v_u52 k x_) p_).1) (res_u10 (v_u10 k x_.1 (v_u52 k x_) (v_u9 k x_.1 (v_u52 k x_) p_).1)) (bo_u10 x_.1 (v_u52 k x_) (v_u9 k x_.1 (v_u52 k x_) p_).1 (v_u10 k x_.1 (v_u52 k x_) (v_u9 k x_.1 (v_u52 k x_) p_).1))] (.test (((v_u10 k x_.1 (v_u52 k x_) (v_u9 k x_.1 (v_u52 k x_) p_).1).2 == (0 : Int) && eqT T4 (v_u10 k x_.1 (v_u52 k x_) (v_u9 k x_.1 (v_u52 k x_) p_).1).1 (v_u10 k x_.1 (v_u52 k x_) p_).1)) (.need [((v_u10 k x_.1 (v_u52 k x_) (v_u9 k x_.1 (v_u52 k x_) p_).1).2 == (0 : Int) && eqT T4 (v_u10 k x_.1 (v_u52 k x_) (v_u9 k x_.1 (v_u52 k x_) p_).1).1 (v_u10 k x_.1 (v_u52 k x_) p_).1) = true, CC Try.prog 8 (args_u49 ) (bin_u49 ) (res_u49 (v_u49 k )) (bo_u49  (v_u49 k ))] (.leaf (res_u48 (true && v_u49 k)) (bo_u48 x_ p_ (true && v_u49 k)))) (.need [((v_u10 k x_.1 (v_u52 k x_) (v_u9 k x_.1 (v_u52 k x_) p_).1).2 == (0 : Int) && eqT T4 (v_u10 k x_.1 (v_u52 k x_) (v_u9 k x_.1 (v_u52 k x_) p_).1).1 (v_u10 k x_.1 (v_u52 k x_) p_).1) = false] (.leaf (res_u48 false) (bo_u48 x_ p_ false))))))))))))))))) (by kernel_rfl) ?_
 refine ⟨fun c => ?_, fun c => ?_⟩
 ·rw [cond_t (show ((v_u50 k x_)) = true from c)] at h
  by_cases q : ((f_u50 k x_).isSome = true) ∧ (v_u50 k x_ = true)
  ·rw [if_pos q] at h
   refine ⟨(conjC (cc_u50 k x_ q.1) (conjC q.2 conj0)), ?_⟩
   refine ⟨fun c => ?_, fun c => ?_⟩
   rotate_left
   ·cases c
   by_cases q : ((f_u49 k ).isSome = true)
   ·rw [if_pos q] at h
    refine ⟨(conjC (cc_u49 k  q) conj0), ?_⟩
    cases h; exact ⟨rfl, rfl⟩
   ·rw [if_neg q] at h; cases h
  ·rw [if_neg q] at h; cases h
 ·rw [cond_f (show ((v_u50 k x_)) = false from c)] at h
  by_cases q : ((f_u50 k x_).isSome = true) ∧ (v_u50 k x_ = false) ∧ ((f_u4 k x_.1 x_.2.1 x_.2.2).isSome = true)
  ·rw [if_pos q] at h
   refine ⟨(conjC (cc_u50 k x_ q.1) (conjC q.2.1 (conjC (cc_u4 k x_.1 x_.2.1 x_.2.2 q.2.2) conj0))), ?_⟩
   refine ⟨fun c => ?_, fun c => ?_⟩
   ·rw [cond_t (show ((false || v_u4 k x_.1 x_.2.1 x_.2.2 != (0 : Int))) = true from c)] at h
    by_cases q : ((f_u49 k ).isSome = true)
    ·rw [if_pos q] at h
     refine ⟨(conjC (cc_u49 k  q) conj0), ?_⟩
     cases h; exact ⟨rfl, rfl⟩
    ·rw [if_neg q] at h; cases h
   ·rw [cond_f (show ((false || v_u4 k x_.1 x_.2.1 x_.2.2 != (0 : Int))) = false from c)] at h
    by_cases q : ((f_u52 k x_).isSome = true) ∧ ((f_u10 k x_.1 (v_u52 k x_) p_).isSome = true)
    ·rw [if_pos q] at h
     refine ⟨(conjC (cc_u52 k x_ q.1) (conjC (cc_u10 k x_.1 (v_u52 k x_) p_ q.2) conj0)), ?_⟩
     by_cases q : ((f_u52 k x_).isSome = true) ∧ ((f_u5 k x_.1 (v_u52 k x_) p_.1).isSome = true)
     ·rw [if_pos q] at h
      refine ⟨(conjC (cc_u52 k x_ q.1) (conjC (cc_u5 k x_.1 (v_u52 k x_) p_.1 q.2) conj0)), ?_⟩
      refine ⟨fun c => ?_, fun c => ?_⟩
      ·rw [cond_t (show (((v_u10 k x_.1 (v_u52 k x_) p_).2 != (0 : Int) || (v_u5 k x_.1 (v_u52 k x_) p_.1).2 != (0 : Int))) = true from c)] at h
       by_cases q : ((f_u49 k ).isSome = true)
       ·rw [if_pos q] at h
        refine ⟨(conjC (cc_u49 k  q) conj0), ?_⟩
        cases h; exact ⟨rfl, rfl⟩
       ·rw [if_neg q] at h; cases h
      ·rw [cond_f (show (((v_u10 k x_.1 (v_u52 k x_) p_).2 != (0 : Int) || (v_u5 k x_.1 (v_u52 k x_) p_.1).2 != (0 : Int))) = false from c)] at h
       refine ⟨fun c => ?_, fun c => ?_⟩
       ·rw [cond_t (show ((v_u5 k x_.1 (v_u52 k x_) p_.1).1.2.2.1) = true from c)] at h
        by_cases q : ((f_u29 k (v_u5 k x_.1 (v_u52 k x_) p_.1).1.2.2.2 p_.2.2).isSome = true)
        ·rw [if_pos q] at h
         refine ⟨(conjC (cc_u29 k (v_u5 k x_.1 (v_u52 k x_) p_.1).1.2.2.2 p_.2.2 q) conj0), ?_⟩
         refine ⟨fun c => ?_, fun c => ?_⟩
         ·rw [cond_t (show (((v_u29 k (v_u5 k x_.1 (v_u52 k x_) p_.1).1.2.2.2 p_.2.2).2 != (0 : Int) || (!eqT T4 (v_u10 k x_.1 (v_u52 k x_) p_).1 ((0 : Int), i64.wrap (i64.wrap (i64.wrap ((v_u5 k x_.1 (v_u52 k x_) p_.1).1.1 + (v_u5 k x_.1 (v_u52 k x_) p_.1).1.2.1) - (1 : Int)) - p_.2.1), (v_u29 k (v_u5 k x_.1 (v_u52 k x_) p_.1).1.2.2.2 p_.2.2).1)))) = true from c)] at h
          cases h; exact ⟨rfl, rfl⟩
         ·rw [cond_f (show (((v_u29 k (v_u5 k x_.1 (v_u52 k x_) p_.1).1.2.2.2 p_.2.2).2 != (0 : Int) || (!eqT T4 (v_u10 k x_.1 (v_u52 k x_) p_).1 ((0 : Int), i64.wrap (i64.wrap (i64.wrap ((v_u5 k x_.1 (v_u52 k x_) p_.1).1.1 + (v_u5 k x_.1 (v_u52 k x_) p_.1).1.2.1) - (1 : Int)) - p_.2.1), (v_u29 k (v_u5 k x_.1 (v_u52 k x_) p_.1).1.2.2.2 p_.2.2).1)))) = false from c)] at h
          refine ⟨fun c => ?_, fun c => ?_⟩
          ·rw [cond_t (show ((p_.1 == (0 : Int))) = true from c)] at h
           refine ⟨fun c => ?_, fun c => ?_⟩
           ·rw [cond_t (show ((eqT T4 (v_u10 k x_.1 (v_u52 k x_) p_).1 p_)) = true from c)] at h
            by_cases q : (eqT T4 (v_u10 k x_.1 (v_u52 k x_) p_).1 p_ = true) ∧ ((f_u49 k ).isSome = true)
            ·rw [if_pos q] at h
             refine ⟨(conjC q.1 (conjC (cc_u49 k  q.2) conj0)), ?_⟩
             cases h; exact ⟨rfl, rfl⟩
            ·rw [if_neg q] at h; cases h
           ·rw [cond_f (show ((eqT T4 (v_u10 k x_.1 (v_u52 k x_) p_).1 p_)) = false from c)] at h
            by_cases q : (eqT T4 (v_u10 k x_.1 (v_u52 k x_) p_).1 p_ = false)
            ·rw [if_pos q] at h
             refine ⟨(conjC q conj0), ?_⟩
             cases h; exact ⟨rfl, rfl⟩
            ·rw [if_neg q] at h; cases h
          ·rw [cond_f (show ((p_.1 == (0 : Int))) = false from c)] at h
           by_cases q : ((f_u52 k x_).isSome = true) ∧ ((f_u9 k x_.1 (v_u52 k x_) p_).isSome = true)
           ·rw [if_pos q] at h
            refine ⟨(conjC (cc_u52 k x_ q.1) (conjC (cc_u9 k x_.1 (v_u52 k x_) p_ q.2) conj0)), ?_⟩
            refine ⟨fun c => ?_, fun c => ?_⟩
            ·rw [cond_t (show (((v_u9 k x_.1 (v_u52 k x_) p_).2 != (0 : Int))) = true from c)] at h
             cases h; exact ⟨rfl, rfl⟩
            ·rw [cond_f (show (((v_u9 k x_.1 (v_u52 k x_) p_).2 != (0 : Int))) = false from c)] at h
             by_cases q : ((f_u52 k x_).isSome = true) ∧ ((f_u10 k x_.1 (v_u52 k x_) (v_u9 k x_.1 (v_u52 k x_) p_).1).isSome = true)
             ·rw [if_pos q] at h
              refine ⟨(conjC (cc_u52 k x_ q.1) (conjC (cc_u10 k x_.1 (v_u52 k x_) (v_u9 k x_.1 (v_u52 k x_) p_).1 q.2) conj0)), ?_⟩
              refine ⟨fun c => ?_, fun c => ?_⟩
              ·rw [cond_t (show (((v_u10 k x_.1 (v_u52 k x_) (v_u9 k x_.1 (v_u52 k x_) p_).1).2 == (0 : Int) && eqT T4 (v_u10 k x_.1 (v_u52 k x_) (v_u9 k x_.1 (v_u52 k x_) p_).1).1 (v_u10 k x_.1 (v_u52 k x_) p_).1)) = true from c)] at h
               by_cases q : (((v_u10 k x_.1 (v_u52 k x_) (v_u9 k x_.1 (v_u52 k x_) p_).1).2 == (0 : Int) && eqT T4 (v_u10 k x_.1 (v_u52 k x_) (v_u9 k x_.1 (v_u52 k x_) p_).1).1 (v_u10 k x_.1 (v_u52 k x_) p_).1) = true) ∧ ((f_u49 k ).isSome = true)
               ·rw [if_pos q] at h
                refine ⟨(conjC q.1 (conjC (cc_u49 k  q.2) conj0)), ?_⟩
                cases h; exact ⟨rfl, rfl⟩
               ·rw [if_neg q] at h; cases h
              ·rw [cond_f (show (((v_u10 k x_.1 (v_u52 k x_) (v_u9 k x_.1 (v_u52 k x_) p_).1).2 == (0 : Int) && eqT T4 (v_u10 k x_.1 (v_u52 k x_) (v_u9 k x_.1 (v_u52 k x_) p_).1).1 (v_u10 k x_.1 (v_u52 k x_) p_).1)) = false from c)] at h
               by_cases q : (((v_u10 k x_.1 (v_u52 k x_) (v_u9 k x_.1 (v_u52 k x_) p_).1).2 == (0 : Int) && eqT T4 (v_u10 k x_.1 (v_u52 k x_) (v_u9 k x_.1 (v_u52 k x_) p_).1).1 (v_u10 k x_.1 (v_u52 k x_) p_).1) = false)
               ·rw [if_pos q] at h
                refine ⟨(conjC q conj0), ?_⟩
                cases h; exact ⟨rfl, rfl⟩
               ·rw [if_neg q] at h; cases h
             ·rw [if_neg q] at h; cases h
           ·rw [if_neg q] at h; cases h
        ·rw [if_neg q] at h; cases h
       ·rw [cond_f (show ((v_u5 k x_.1 (v_u52 k x_) p_.1).1.2.2.1) = false from c)] at h
        by_cases q : ((f_u29 k (v_u5 k x_.1 (v_u52 k x_) p_.1).1.2.2.2 p_.2.2).isSome = true)
        ·rw [if_pos q] at h
         refine ⟨(conjC (cc_u29 k (v_u5 k x_.1 (v_u52 k x_) p_.1).1.2.2.2 p_.2.2 q) conj0), ?_⟩
         refine ⟨fun c => ?_, fun c => ?_⟩
         ·rw [cond_t (show (((v_u29 k (v_u5 k x_.1 (v_u52 k x_) p_.1).1.2.2.2 p_.2.2).2 != (0 : Int) || (!eqT T4 (v_u10 k x_.1 (v_u52 k x_) p_).1 ((0 : Int), i64.wrap ((v_u5 k x_.1 (v_u52 k x_) p_.1).1.1 + p_.2.1), (v_u29 k (v_u5 k x_.1 (v_u52 k x_) p_.1).1.2.2.2 p_.2.2).1)))) = true from c)] at h
          cases h; exact ⟨rfl, rfl⟩
         ·rw [cond_f (show (((v_u29 k (v_u5 k x_.1 (v_u52 k x_) p_.1).1.2.2.2 p_.2.2).2 != (0 : Int) || (!eqT T4 (v_u10 k x_.1 (v_u52 k x_) p_).1 ((0 : Int), i64.wrap ((v_u5 k x_.1 (v_u52 k x_) p_.1).1.1 + p_.2.1), (v_u29 k (v_u5 k x_.1 (v_u52 k x_) p_.1).1.2.2.2 p_.2.2).1)))) = false from c)] at h
          refine ⟨fun c => ?_, fun c => ?_⟩
          ·rw [cond_t (show ((p_.1 == (0 : Int))) = true from c)] at h
           refine ⟨fun c => ?_, fun c => ?_⟩
           ·rw [cond_t (show ((eqT T4 (v_u10 k x_.1 (v_u52 k x_) p_).1 p_)) = true from c)] at h
            by_cases q : (eqT T4 (v_u10 k x_.1 (v_u52 k x_) p_).1 p_ = true) ∧ ((f_u49 k ).isSome = true)
            ·rw [if_pos q] at h
             refine ⟨(conjC q.1 (conjC (cc_u49 k  q.2) conj0)), ?_⟩
             cases h; exact ⟨rfl, rfl⟩
            ·rw [if_neg q] at h; cases h
           ·rw [cond_f (show ((eqT T4 (v_u10 k x_.1 (v_u52 k x_) p_).1 p_)) = false from c)] at h
            by_cases q : (eqT T4 (v_u10 k x_.1 (v_u52 k x_) p_).1 p_ = false)
            ·rw [if_pos q] at h
             refine ⟨(conjC q conj0), ?_⟩
             cases h; exact ⟨rfl, rfl⟩
            ·rw [if_neg q] at h; cases h
          ·rw [cond_f (show ((p_.1 == (0 : Int))) = false from c)] at h
           by_cases q : ((f_u52 k x_).isSome = true) ∧ ((f_u9 k x_.1 (v_u52 k x_) p_).isSome = true)
           ·rw [if_pos q] at h
            refine ⟨(conjC (cc_u52 k x_ q.1) (conjC (cc_u9 k x_.1 (v_u52 k x_) p_ q.2) conj0)), ?_⟩
            refine ⟨fun c => ?_, fun c => ?_⟩
            ·rw [cond_t (show (((v_u9 k x_.1 (v_u52 k x_) p_).2 != (0 : Int))) = true from c)] at h
             cases h; exact ⟨rfl, rfl⟩
            ·rw [cond_f (show (((v_u9 k x_.1 (v_u52 k x_) p_).2 != (0 : Int))) = false from c)] at h
             by_cases q : ((f_u52 k x_).isSome = true) ∧ ((f_u10 k x_.1 (v_u52 k x_) (v_u9 k x_.1 (v_u52 k x_) p_).1).isSome = true)
             ·rw [if_pos q] at h
              refine ⟨(conjC (cc_u52 k x_ q.1) (conjC (cc_u10 k x_.1 (v_u52 k x_) (v_u9 k x_.1 (v_u52 k x_) p_).1 q.2) conj0)), ?_⟩
              refine ⟨fun c => ?_, fun c => ?_⟩
              ·rw [cond_t (show (((v_u10 k x_.1 (v_u52 k x_) (v_u9 k x_.1 (v_u52 k x_) p_).1).2 == (0 : Int) && eqT T4 (v_u10 k x_.1 (v_u52 k x_) (v_u9 k x_.1 (v_u52 k x_) p_).1).1 (v_u10 k x_.1 (v_u52 k x_) p_).1)) = true from c)] at h
               by_cases q : (((v_u10 k x_.1 (v_u52 k x_) (v_u9 k x_.1 (v_u52 k x_) p_).1).2 == (0 : Int) && eqT T4 (v_u10 k x_.1 (v_u52 k x_) (v_u9 k x_.1 (v_u52 k x_) p_).1).1 (v_u10 k x_.1 (v_u52 k x_) p_).1) = true) ∧ ((f_u49 k ).isSome = true)
               ·rw [if_pos q] at h
                refine ⟨(conjC q.1 (conjC (cc_u49 k  q.2) conj0)), ?_⟩
                cases h; exact ⟨rfl, rfl⟩
               ·rw [if_neg q] at h; cases h
              ·rw [cond_f (show (((v_u10 k x_.1 (v_u52 k x_) (v_u9 k x_.1 (v_u52 k x_) p_).1).2 == (0 : Int) && eqT T4 (v_u10 k x_.1 (v_u52 k x_) (v_u9 k x_.1 (v_u52 k x_) p_).1).1 (v_u10 k x_.1 (v_u52 k x_) p_).1)) = false from c)] at h
               by_cases q : (((v_u10 k x_.1 (v_u52 k x_) (v_u9 k x_.1 (v_u52 k x_) p_).1).2 == (0 : Int) && eqT T4 (v_u10 k x_.1 (v_u52 k x_) (v_u9 k x_.1 (v_u52 k x_) p_).1).1 (v_u10 k x_.1 (v_u52 k x_) p_).1) = false)
               ·rw [if_pos q] at h
                refine ⟨(conjC q conj0), ?_⟩
                cases h; exact ⟨rfl, rfl⟩
               ·rw [if_neg q] at h; cases h
             ·rw [if_neg q] at h; cases h
           ·rw [if_neg q] at h; cases h
        ·rw [if_neg q] at h; cases h
     ·rw [if_neg q] at h; cases h
    ·rw [if_neg q] at h; cases h
  ·rw [if_neg q] at h; cases h
end
end Go.AM
namespace Go.AM
open Go Go.Proofs

theorem q_FamilyComposed (k : Nat) (hk : 301000 ≤ k) (x : List Ro × Int × Int) (p : Pt) : f_u48 k x p = some true := by
  have hg := great_s k (by omega) x
  unfold f_u48
  rw [awake_s k hk, awake_v k hk, fam_Check_s k (by omega), fam_Check_v k (by omega), web_s, web_v, fam_Web_s k (by omega), fam_Web_v k (by omega), fam_Cut_s k (by omega), fam_Cut_v k (by omega), fam_Up_s k (by omega), fam_Up_v k (by omega), fam_Web_s k (by omega), fam_Web_v k (by omega), iso_At_s k (by omega), iso_At_v k (by omega)]
  cases hv : v_u50 k x
  · rw [cond_false, if_pos ⟨hg, rfl, rfl⟩, Bool.false_or]
    by_cases h : checkS x.1 x.2.1 x.2.2 = 0
    · have reg := checkS_zero.1 h
      rw [show (checkS x.1 x.2.1 x.2.2 != 0) = false by simp [h], cond_false, if_pos ⟨rfl, rfl⟩, if_pos ⟨rfl, rfl⟩]
      by_cases hw : (webE x.1 x.2.1 x.2.2 p).2 = 0
      · by_cases hc : (cutFull x.1 x.2.1 x.2.2 p.1).2 = 0
        · obtain ⟨l, W, L⟩ := x
          have reg : Reg l W L := reg
          have hw : (webE l W L p).2 = 0 := hw
          have hc : (cutFull l W L p.1).2 = 0 := hc
          have ho : onE l W L p = 0 := by
            unfold webE at hw
            by_cases h2 : onE l W L p = 0
            · exact h2
            · rw [if_pos h2] at hw; exact absurd hw h2
          have hz : errS l W L p.1 = 0 := by
            unfold onE at ho
            by_cases h2 : errS l W L p.1 = 0
            · exact h2
            · rw [if_pos h2] at ho; exact absurd ho h2
          have hs : onS l W L p = 0 := by
            unfold onE at ho
            rw [if_neg (fun h => h hz)] at ho; exact ho
          have on := onS_zero.1 hs
          have kn := (errS_zero.1 hz).kn
          have hW : webE l W L p = (webS l 512 p, 0) := by unfold webE; rw [if_neg (fun h => h ho)]
          have hC : cutFull l W L p.1 = cutS l W L 512 p.1 := by unfold cutFull; rw [if_neg (fun h => h hz)]
          obtain ⟨c, ec⟩ : ∃ c, (cutFull l W L p.1).1 = c := ⟨_, rfl⟩
          have hC2 : cutFull l W L p.1 = (c, 0) := by rw [← ec, ← hc]
          have ci := cutS_in reg 512 p.1 c (reg.anc kn) (hC.symm.trans hC2)
          have hq := ci.web p rfl on
          obtain ⟨a0, a1, b0, b1⟩ := on
          obtain ⟨c1, c2, c3, c4, c5, _⟩ := ci
          have hsz := reg.small 512 p.1 (reg.anc kn)
          have hw2 := reg.w
          have hat : atS c.2.2.2 p.2.2 = (imgAt c.2.2.2 p.2.2, 0) := by unfold atS; rw [if_neg (fun h => h (chk_zero.2 c4)), if_neg (by omega)]
          -- the second part
          have key : (bif (p.1 == (0 : Int)) then
              (bif (eqT T4 (webS l 512 p) p) then (if (eqT T4 (webS l 512 p) p = true) ∧ (some true).isSome = true then some (true && true) else none) else (if (eqT T4 (webS l 512 p) p = false) then some false else none))
            else (if (some (W, L)).isSome = true ∧ (some (upS l W L p)).isSome = true then (bif ((upS l W L p).2 != 0) then some false else
              (if (some (W, L)).isSome = true ∧ (some (webE l W L (upS l W L p).1)).isSome = true then
                (bif ((webE l W L (upS l W L p).1).2 == 0 && eqT T4 (webE l W L (upS l W L p).1).1 (webS l 512 p)) then
                  (if (((webE l W L (upS l W L p).1).2 == 0 && eqT T4 (webE l W L (upS l W L p).1).1 (webS l 512 p)) = true) ∧ (some true).isSome = true then some (true && true) else none)
                else (if (((webE l W L (upS l W L p).1).2 == 0 && eqT T4 (webE l W L (upS l W L p).1).1 (webS l 512 p)) = false) then some false else none)) else none)) else none)) = some true := by
            by_cases h0 : p.1 = 0
            · rw [show (p.1 == 0) = true from beq_iff_eq.2 h0, webS_root h0, eqT_pt]; rfl
            · rw [show (p.1 == 0) = false from beq_false_of_ne h0]
              rcases kn with kn | ⟨r, e⟩
              · exact absurd kn h0
              · have ro := reg.ok.ro r (look_some e).1
                have on2 := On.place h0 (onS_zero.1 hs) e ro
                have hu : upS l W L p = (placeS r p, 0) := by
                  unfold upS
                  rw [if_neg (fun h => h hz), if_neg h0, if_neg (fun h => h hs), e]
                have hz2 : errS l W L (placeS r p).1 = 0 := errS_zero.2 ⟨reg, ro.parent⟩
                have ho2 : onE l W L (placeS r p) = 0 := by
                  unfold onE
                  rw [if_neg (fun h => h hz2)]; exact onS_zero.2 on2
                have hw3 : webE l W L (placeS r p) = (webS l 512 p, 0) := by
                  unfold webE
                  rw [if_neg (fun h => h ho2)]
                  have ha := reg.anc (id := p.1) (.inr ⟨r, e⟩)
                  obtain ⟨m, r', em, e', a⟩ := ha.cases h0
                  rw [e] at e'
                  cases e'
                  have e5 : webS l 512 p = webS l 511 (placeS r p) := webS_step h0 e 511
                  have em : m = 511 := by omega
                  subst em
                  rw [e5, webS_mono 511 (placeS r p) a 512 (by omega)]
                rw [hu]
                show (bif false then _ else (if (some (W, L)).isSome = true ∧ (some (placeS r p, (0 : Int))).isSome = true then (bif ((0 : Int) != 0) then some false else
              (if (some (W, L)).isSome = true ∧ (some (webE l W L (placeS r p))).isSome = true then
                (bif ((webE l W L (placeS r p)).2 == 0 && eqT T4 (webE l W L (placeS r p)).1 (webS l 512 p)) then
                  (if (((webE l W L (placeS r p)).2 == 0 && eqT T4 (webE l W L (placeS r p)).1 (webS l 512 p)) = true) ∧ (some true).isSome = true then some (true && true) else none)
                else (if (((webE l W L (placeS r p)).2 == 0 && eqT T4 (webE l W L (placeS r p)).1 (webS l 512 p)) = false) then some false else none)) else none)) else none)) = some true
                rw [hw3]
                show (bif false then _ else (if (some (W, L)).isSome = true ∧ (some (placeS r p, (0 : Int))).isSome = true then (bif ((0 : Int) != 0) then some false else
              (if (some (W, L)).isSome = true ∧ (some (webS l 512 p, (0 : Int))).isSome = true then
                (bif ((0 : Int) == 0 && eqT T4 (webS l 512 p) (webS l 512 p)) then
                  (if (((0 : Int) == 0 && eqT T4 (webS l 512 p) (webS l 512 p)) = true) ∧ (some true).isSome = true then some (true && true) else none)
                else (if (((0 : Int) == 0 && eqT T4 (webS l 512 p) (webS l 512 p)) = false) then some false else none)) else none)) else none)) = some true
                rw [eqT_pt]; rfl
          show (bif ((webE l W L p).2 != 0 || (cutFull l W L p.1).2 != 0) then _ else (bif (cutFull l W L p.1).1.2.2.1 then _ else _)) = _
          rw [hW, hC2]
          show (bif c.2.2.1 then (if (some (atS c.2.2.2 p.2.2)).isSome = true then (bif ((atS c.2.2.2 p.2.2).2 != 0 || !eqT T4 (webS l 512 p) ((0 : Int), IntKind.i64.wrap (IntKind.i64.wrap (IntKind.i64.wrap (c.1 + c.2.1) - 1) - p.2.1), (atS c.2.2.2 p.2.2).1)) then some false else _) else _)
            else (if (some (atS c.2.2.2 p.2.2)).isSome = true then (bif ((atS c.2.2.2 p.2.2).2 != 0 || !eqT T4 (webS l 512 p) ((0 : Int), IntKind.i64.wrap (c.1 + p.2.1), (atS c.2.2.2 p.2.2).1)) then some false else _) else _)) = _
          rw [hat, wrap_id (i := c.1 + c.2.1) (by omega) (by omega), wrap_id (i := c.1 + c.2.1 - 1) (by omega) (by omega), wrap_id (i := c.1 + c.2.1 - 1 - p.2.1) (by omega) (by omega), wrap_id (i := c.1 + p.2.1) (by omega) (by omega)]
          cases ht : c.2.2.1
          · have e6 : webS l 512 p = ((0 : Int), c.1 + p.2.1, imgAt c.2.2.2 p.2.2) := by rw [hq]; unfold acrS; rw [ht, if_neg Bool.false_ne_true]
            have e7 : eqT T4 (webS l 512 p) ((0 : Int), c.1 + p.2.1, imgAt c.2.2.2 p.2.2) = true := by rw [e6]; exact eqT_pt _
            rw [cond_false, Option.isSome_some, if_pos rfl]
            show (bif (((0 : Int) != 0) || !eqT T4 (webS l 512 p) ((0 : Int), c.1 + p.2.1, imgAt c.2.2.2 p.2.2)) then some false else _) = _
            rw [e7]
            exact key
          · have e6 : webS l 512 p = ((0 : Int), c.1 + c.2.1 - 1 - p.2.1, imgAt c.2.2.2 p.2.2) := by rw [hq]; unfold acrS; rw [ht, if_pos rfl]
            have e7 : eqT T4 (webS l 512 p) ((0 : Int), c.1 + c.2.1 - 1 - p.2.1, imgAt c.2.2.2 p.2.2) = true := by rw [e6]; exact eqT_pt _
            rw [cond_true, Option.isSome_some, if_pos rfl]
            show (bif (((0 : Int) != 0) || !eqT T4 (webS l 512 p) ((0 : Int), c.1 + c.2.1 - 1 - p.2.1, imgAt c.2.2.2 p.2.2)) then some false else _) = _
            rw [e7]
            exact key
        · rw [bne_iff_ne.2 hc, Bool.or_true]; rfl
      · rw [bne_iff_ne.2 hw, Bool.true_or]; rfl
    · rw [bne_iff_ne.2 h]; rfl
  · rw [cond_true, if_pos ⟨hg, rfl⟩]; rfl
end Go.AM
