/- Contracts of the functions that the law reaches, and the plain law. -/
import Derived.Test.YtbenjjjcafbmmaaGreatFuna
set_option linter.unusedVariables false
set_option linter.unusedSimpArgs false
set_option linter.unusedSectionVars false
namespace Go.AM
open Go Go.Proofs Go.IntKind
set_option linter.unusedVariables false
noncomputable section
abbrev R_u66 : Type := List (I).T
def res_u66 (r : R_u66) : AV := .r (.ro I r)
def bo_u66 (l_ : List (I).T) (n_ : Int) (r : R_u66) : List (Nat × Blk) := []
def args_u66 (l_ : List (I).T) (n_ : Int) : List AV := [.r (.ro I l_), .r (.v (.int .i64 n_))]
def bin_u66 (l_ : List (I).T) (n_ : Int) : List Blk := []
def st_u66_2 (y0 : List (I).T) (y1 : Int) (y2 : Int) : St := ⟨mkS 48 [(0, .r (.ro I y0)), (1, .r (.v (.int .i64 y1))), (5, .r (.v (.int .i64 y2)))], []⟩
def f_u66_2 (k : Nat) : Nat → List (I).T → Int → Int → Option R_u66
 | 0, _, _, _ => none
 | j + 1, y0, y1, y2 =>
 if (decide (y2 < (↑y0.length : Int)) = true → 0 ≤ y2) ∧ (decide (y2 < (↑y0.length : Int)) = true → y2 < (↑y0.length : Int)) then
 bif (decide (y2 < (↑y0.length : Int)) && decide (y0.getD y2.toNat I.dflt < y1)) then
 f_u66_2 k j y0 y1 ((i64.wrap (y2 + 1)))
 else
 if (decide (y2 < (↑y0.length : Int)) = true → 0 ≤ y2) ∧ (decide (y2 < (↑y0.length : Int)) = true → y2 < (↑y0.length : Int)) then
 bif (decide (y2 < (↑y0.length : Int)) && y0.getD y2.toNat I.dflt == y1) then
 some y0
 else
 if ((0 : Int) ≤ (0 : Int)) ∧ (0 ≤ y2) ∧ (y2 ≤ (↑y0.length : Int)) ∧ (((0 : Nat) + (List.take (y2.toNat - Int.toNat (0 : Int)) (List.drop (Int.toNat (0 : Int)) y0)).length) * (8 : Nat) ≤ (140737488355328 : Nat)) then
 if ((([] ++ List.take (y2.toNat - Int.toNat (0 : Int)) (List.drop (Int.toNat (0 : Int)) y0)).length + [y1].length) * (8 : Nat) ≤ (140737488355328 : Nat)) then
 if (0 ≤ y2) ∧ (y2 ≤ (↑y0.length : Int)) ∧ ((↑y0.length : Int) ≤ (↑y0.length : Int)) ∧ ((([] ++ List.take (y2.toNat - Int.toNat (0 : Int)) (List.drop (Int.toNat (0 : Int)) y0) ++ [y1]).length + (List.take ((↑y0.length : Int).toNat - y2.toNat) (List.drop y2.toNat y0)).length) * (8 : Nat) ≤ (140737488355328 : Nat)) then
 some ([] ++ List.take (y2.toNat - Int.toNat 0) (List.drop (Int.toNat 0) y0) ++ [y1] ++ List.take ((↑y0.length : Int).toNat - y2.toNat) (List.drop y2.toNat y0))
 else none
 else none
 else none
 else none
 else none
def f_u66 (k : Nat) (l_ : List (I).T) (n_ : Int) : Option R_u66 :=
 f_u66_2 k k l_ n_ 0
def v_u66 (k : Nat) (l_ : List (I).T) (n_ : Int) : R_u66 := (f_u66 k l_ n_).getD []
def K_u66 (k : Nat) : Calld := ⟨fun g xs => match g with
 | _ => none, fun g xs bs => match g with
 | _ => none⟩
theorem ev_u66 (k : Nat) (l_ : List (I).T) (n_ : Int) : ∀ j, (∀ (y0 : List (I).T) (y1 : Int) (y2 : Int) (r : R_u66), f_u66_2 k j y0 y1 y2 = some r → Ev Tryz.prog Tryz.f119 0 (placeAt Tryz.f119 2) (st_u66_2 y0 y1 y2) (res_u66 r) (bo_u66 l_ n_ r))
 | 0 => by
  intros; rename_i h; simp [f_u66_2] at h
 | j + 1 => by
  have ih := ev_u66 k l_ n_ j
  ·intro y0 y1 y2 r h
   rw [f_u66_2] at h
   refine Ev.tree hm (R := Rt) (K := (K_u66 k)) (l := []) (C := [(2, [.autoB [0, 1, 5] false []])]) (E := [.frz 4 false (RTy.list I), .autoB [4] true []]) (n := 1000) (T := .need [decide (y2 < (↑y0.length : Int)) = true → 0 ≤ y2, decide (y2 < (↑y0.length : Int)) = true → y2 < (↑y0.length : Int)] (.test ((decide (y2 < (↑y0.length : Int)) && decide (y0.getD y2.toNat I.dflt < y1))) (.cut 2 (placeAt Tryz.f119 2) (st_u66_2 y0 y1 ((i64.wrap (y2 + 1))))) (.need [decide (y2 < (↑y0.length : Int)) = true → 0 ≤ y2, decide (y2 < (↑y0.length : Int)) = true → y2 < (↑y0.length : Int)] (.test ((decide (y2 < (↑y0.length : Int)) && y0.getD y2.toNat I.dflt == y1)) (.leaf (res_u66 y0) (bo_u66 l_ n_ y0)) (.need [(0 : Int) ≤ (0 : Int), 0 ≤ y2, y2 ≤ (↑y0.length : Int), ((0 : Nat) + (List.take (y2.toNat - Int.toNat (0 : Int)) (List.drop (Int.toNat (0 : Int)) y0)).length) * (8 : Nat) ≤ (140737488355328 : Nat)] (.need [(([] ++ List.take (y2.toNat - Int.toNat (0 : Int)) (List.drop (Int.toNat (0 : Int)) y0)).length + [y1].length) * (8 : Nat) ≤ (140737488355328 : Nat)] (.need [0 ≤ y2, y2 ≤ (↑y0.length : Int), (↑y0.length : Int) ≤ (↑y0.length : Int), (([] ++ List.take (y2.toNat - Int.toNat (0 : Int)) (List.drop (Int.toNat (0 : Int)) y0) ++ [y1]).length + (List.take ((↑y0.length : Int).toNat - y2.toNat) (List.drop y2.toNat y0)).length) * (8 : Nat) ≤ (140737488355328 : Nat)] (.leaf (res_u66 ([] ++ List.take (y2.toNat - Int.toNat 0) (List.drop (Int.toNat 0) y0) ++ [y1] ++ List.take ((↑y0.length : Int).toNat - y2.toNat) (List.drop y2.toNat y0))) (bo_u66 l_ n_ ([] ++ List.take (y2.toNat - Int.toNat 0) (List.drop (Int.toNat 0) y0) ++ [y1] ++ List.take ((↑y0.length : Int).toNat - y2.toNat) (List.drop y2.toNat y0))))))))))) (by kernel_rfl) ?_
   by_cases q : (decide (y2 < (↑y0.length : Int)) = true → 0 ≤ y2) ∧ (decide (y2 < (↑y0.length : Int)) = true → y2 < (↑y0.length : Int))
   ·rw [if_pos q] at h
    refine ⟨(conjC q.1 (conjC q.2 conj0)), ?_⟩
    refine ⟨fun c => ?_, fun c => ?_⟩
    ·rw [cond_t (show ((decide (y2 < (↑y0.length : Int)) && decide (y0.getD y2.toNat I.dflt < y1))) = true from c)] at h
     exact ih y0 y1 ((i64.wrap (y2 + 1))) _ h
    ·rw [cond_f (show ((decide (y2 < (↑y0.length : Int)) && decide (y0.getD y2.toNat I.dflt < y1))) = false from c)] at h
     by_cases q : (decide (y2 < (↑y0.length : Int)) = true → 0 ≤ y2) ∧ (decide (y2 < (↑y0.length : Int)) = true → y2 < (↑y0.length : Int))
     ·rw [if_pos q] at h
      refine ⟨(conjC q.1 (conjC q.2 conj0)), ?_⟩
      refine ⟨fun c => ?_, fun c => ?_⟩
      ·rw [cond_t (show ((decide (y2 < (↑y0.length : Int)) && y0.getD y2.toNat I.dflt == y1)) = true from c)] at h
       cases h; exact ⟨rfl, rfl⟩
      ·rw [cond_f (show ((decide (y2 < (↑y0.length : Int)) && y0.getD y2.toNat I.dflt == y1)) = false from c)] at h
       by_cases q : ((0 : Int) ≤ (0 : Int)) ∧ (0 ≤ y2) ∧ (y2 ≤ (↑y0.length : Int)) ∧ (((0 : Nat) + (List.take (y2.toNat - Int.toNat (0 : Int)) (List.drop (Int.toNat (0 : Int)) y0)).length) * (8 : Nat) ≤ (140737488355328 : Nat))
       ·rw [if_pos q] at h
        refine ⟨(conjC q.1 (conjC q.2.1 (conjC q.2.2.1 (conjC q.2.2.2 conj0)))), ?_⟩
        by_cases q : ((([] ++ List.take (y2.toNat - Int.toNat (0 : Int)) (List.drop (Int.toNat (0 : Int)) y0)).length + [y1].length) * (8 : Nat) ≤ (140737488355328 : Nat))
        ·rw [if_pos q] at h
         refine ⟨(conjC q conj0), ?_⟩
         by_cases q : (0 ≤ y2) ∧ (y2 ≤ (↑y0.length : Int)) ∧ ((↑y0.length : Int) ≤ (↑y0.length : Int)) ∧ ((([] ++ List.take (y2.toNat - Int.toNat (0 : Int)) (List.drop (Int.toNat (0 : Int)) y0) ++ [y1]).length + (List.take ((↑y0.length : Int).toNat - y2.toNat) (List.drop y2.toNat y0)).length) * (8 : Nat) ≤ (140737488355328 : Nat))
         ·rw [if_pos q] at h
          refine ⟨(conjC q.1 (conjC q.2.1 (conjC q.2.2.1 (conjC q.2.2.2 conj0)))), ?_⟩
          cases h; exact ⟨rfl, rfl⟩
         ·rw [if_neg q] at h; cases h
        ·rw [if_neg q] at h; cases h
       ·rw [if_neg q] at h; cases h
     ·rw [if_neg q] at h; cases h
   ·rw [if_neg q] at h; cases h
theorem of_u66 (k : Nat) (l_ : List (I).T) (n_ : Int) (r : R_u66) (h : f_u66 k l_ n_ = some r) : CC Tryz.prog 119 (args_u66 l_ n_) (bin_u66 l_ n_) (res_u66 r) (bo_u66 l_ n_ r) := by
 refine CC.of (fn := Tryz.f119) (by kernel_rfl) (by kernel_rfl) (by kernel_rfl) (by kernel_rfl) ?_
 unfold f_u66 at h
 refine Ev.tree hm (R := Rt) (K := (K_u66 k)) (l := []) (C := [(2, [.autoB [0, 1, 5] false []])]) (E := [.frz 4 false (RTy.list I), .autoB [4] true []]) (n := 1000) (T := .cut 2 (placeAt Tryz.f119 2) (st_u66_2 l_ n_ 0)) (by kernel_rfl) ?_
 exact (ev_u66 k l_ n_ k) l_ n_ 0 _ h
theorem cc_u66 (k : Nat) (l_ : List (I).T) (n_ : Int) (h : (f_u66 k l_ n_).isSome = true) : CC Tryz.prog 119 (args_u66 l_ n_) (bin_u66 l_ n_) (res_u66 (v_u66 k l_ n_)) (bo_u66 l_ n_ (v_u66 k l_ n_)) := by
 cases e : f_u66 k l_ n_ with
 | none => rw [e] at h; cases h
 | some r => rw [show v_u66 k l_ n_ = r by simp [v_u66, e]]; exact of_u66 k l_ n_ r e

end
end Go.AM
namespace Go.AM
open Go Go.Proofs Go.IntKind
set_option linter.unusedVariables false
noncomputable section
abbrev R_u65 : Type := List (I).T
def res_u65 (r : R_u65) : AV := .r (.ro I r)
def bo_u65 (a_ : List (T8).T) (b_ : List (T8).T) (r : R_u65) : List (Nat × Blk) := []
def args_u65 (a_ : List (T8).T) (b_ : List (T8).T) : List AV := [.r (.ro T8 a_), .r (.ro T8 b_)]
def bin_u65 (a_ : List (T8).T) (b_ : List (T8).T) : List Blk := []
def st_u65_3 (y0 : List (T8).T) (y1 : List (T8).T) (y2 : List (I).T) (y3 : Int) : St := ⟨mkS 47 [(0, .r (.ro T8 y0)), (1, .r (.ro T8 y1)), (5, .r (.ro I y2)), (6, .r (.v (.int .i64 y3)))], []⟩
def st_u65_7 (y0 : List (T8).T) (y1 : List (I).T) (y2 : Int) : St := ⟨mkS 47 [(1, .r (.ro T8 y0)), (5, .r (.ro I y1)), (7, .r (.v (.int .i64 y2)))], []⟩
mutual
def f_u65_3 (k : Nat) : Nat → List (T8).T → List (T8).T → List (I).T → Int → Option R_u65
 | 0, _, _, _, _ => none
 | j + 1, y0, y1, y2, y3 =>
 bif (decide (y3 < (↑y0.length : Int))) then
 if (0 ≤ y3) ∧ (y3 < (↑y0.length : Int)) ∧ ((f_u66 k y2 (y0.getD y3.toNat T8.dflt).1).isSome = true) ∧ (0 ≤ y3) ∧ (y3 < (↑y0.length : Int)) ∧ ((f_u66 k (v_u66 k y2 (y0.getD y3.toNat T8.dflt).1) (y0.getD y3.toNat T8.dflt).2).isSome = true) then
 f_u65_3 k j y0 y1 ((v_u66 k (v_u66 k y2 (y0.getD y3.toNat T8.dflt).1) (y0.getD y3.toNat T8.dflt).2)) ((i64.wrap (y3 + 1)))
 else none
 else
 f_u65_7 k j y1 y2 0
def f_u65_7 (k : Nat) : Nat → List (T8).T → List (I).T → Int → Option R_u65
 | 0, _, _, _ => none
 | j + 1, y0, y1, y2 =>
 bif (decide (y2 < (↑y0.length : Int))) then
 if (0 ≤ y2) ∧ (y2 < (↑y0.length : Int)) ∧ ((f_u66 k y1 (y0.getD y2.toNat T8.dflt).1).isSome = true) ∧ (0 ≤ y2) ∧ (y2 < (↑y0.length : Int)) ∧ ((f_u66 k (v_u66 k y1 (y0.getD y2.toNat T8.dflt).1) (y0.getD y2.toNat T8.dflt).2).isSome = true) then
 f_u65_7 k j y0 ((v_u66 k (v_u66 k y1 (y0.getD y2.toNat T8.dflt).1) (y0.getD y2.toNat T8.dflt).2)) ((i64.wrap (y2 + 1)))
 else none
 else
 some y1
end
def f_u65 (k : Nat) (a_ : List (T8).T) (b_ : List (T8).T) : Option R_u65 :=
 f_u65_3 k k a_ b_ ([]) 0
def v_u65 (k : Nat) (a_ : List (T8).T) (b_ : List (T8).T) : R_u65 := (f_u65 k a_ b_).getD []
def K_u65 (k : Nat) : Calld := ⟨fun g xs => match g with
 | 119 => match xs with
  | [_, _] => some [false, false]
  | _ => none
 | _ => none, fun g xs bs => match g with
 | 119 => match xs, bs with
  | [.r (.ro tl__ ql_), .r (.v (.int .i64 n_))], [] => (castL tl__ I ql_).bind fun l_ => some (.one (res_u66 (v_u66 k l_ n_), bo_u66 l_ n_ (v_u66 k l_ n_)))
  | _, _ => none
 | _ => none⟩
theorem ev_u65 (k : Nat) (a_ : List (T8).T) (b_ : List (T8).T) : ∀ j, (∀ (y0 : List (T8).T) (y1 : List (T8).T) (y2 : List (I).T) (y3 : Int) (r : R_u65), f_u65_3 k j y0 y1 y2 y3 = some r → Ev Tryz.prog Tryz.f105 0 (placeAt Tryz.f105 3) (st_u65_3 y0 y1 y2 y3) (res_u65 r) (bo_u65 a_ b_ r)) ∧ (∀ (y0 : List (T8).T) (y1 : List (I).T) (y2 : Int) (r : R_u65), f_u65_7 k j y0 y1 y2 = some r → Ev Tryz.prog Tryz.f105 0 (placeAt Tryz.f105 7) (st_u65_7 y0 y1 y2) (res_u65 r) (bo_u65 a_ b_ r))
 | 0 => by
  refine ⟨?_, ?_⟩ <;> intros <;> rename_i h <;> simp [f_u65_3, f_u65_7] at h
 | j + 1 => by
  have ih := ev_u65 k a_ b_ j
  refine ⟨?_, ?_⟩
  ·intro y0 y1 y2 y3 r h
   rw [f_u65_3] at h
   refine Ev.tree hm (R := Rt) (K := (K_u65 k)) (l := []) (C := [(3, [.frz 5 false (RTy.list I), .autoB [0, 1, 5, 6] false []]), (7, [.autoB [1, 5, 7] false []])]) (E := [.frz 4 false (RTy.list I), .autoB [4] true []]) (n := 1000) (T := .test ((decide (y3 < (↑y0.length : Int)))) (.need [0 ≤ y3, y3 < (↑y0.length : Int), CC Tryz.prog 119 (args_u66 y2 (y0.getD y3.toNat T8.dflt).1) (bin_u66 y2 (y0.getD y3.toNat T8.dflt).1) (res_u66 (v_u66 k y2 (y0.getD y3.toNat T8.dflt).1)) (bo_u66 y2 (y0.getD y3.toNat T8.dflt).1 (v_u66 k y2 (y0.getD y3.toNat T8.dflt).1)), 0 ≤ y3, y3 < (↑y0.length : Int), CC Tryz.prog 119 (args_u66 (v_u66 k y2 (y0.getD y3.toNat T8.dflt).1) (y0.getD y3.toNat T8.dflt).2) (bin_u66 (v_u66 k y2 (y0.getD y3.toNat T8.dflt).1) (y0.getD y3.toNat T8.dflt).2) (res_u66 (v_u66 k (v_u66 k y2 (y0.getD y3.toNat T8.dflt).1) (y0.getD y3.toNat T8.dflt).2)) (bo_u66 (v_u66 k y2 (y0.getD y3.toNat T8.dflt).1) (y0.getD y3.toNat T8.dflt).2 (v_u66 k (v_u66 k y2 (y0.getD y3.toNat T8.dflt).1) (y0.getD y3.toNat T8.dflt).2))] (.cut 3 (placeAt Tryz.f105 3) (st_u65_3 y0 y1 ((v_u66 k (v_u66 k y2 (y0.getD y3.toNat T8.dflt).1) (y0.getD y3.toNat T8.dflt).2)) ((i64.wrap (y3 + 1)))))) (.cut 7 (placeAt Tryz.f105 7) (st_u65_7 y1 y2 0))) (by kernel_rfl) ?_
   refine ⟨fun c => ?_, fun c => ?_⟩
   ·rw [cond_t (show ((decide (y3 < (↑y0.length : Int)))) = true from c)] at h
    by_cases q : (0 ≤ y3) ∧ (y3 < (↑y0.length : Int)) ∧ ((f_u66 k y2 (y0.getD y3.toNat T8.dflt).1).isSome = true) ∧ (0 ≤ y3) ∧ (y3 < (↑y0.length : Int)) ∧ ((f_u66 k (v_u66 k y2 (y0.getD y3.toNat T8.dflt).1) (y0.getD y3.toNat T8.dflt).2).isSome = true)
    ·rw [if_pos q] at h
     refine ⟨(conjC q.1 (conjC q.2.1 (conjC (cc_u66 k y2 (y0.getD y3.toNat T8.dflt).1 q.2.2.1) (conjC q.2.2.2.1 (conjC q.2.2.2.2.1 (conjC (cc_u66 k (v_u66 k y2 (y0.getD y3.toNat T8.dflt).1) (y0.getD y3.toNat T8.dflt).2 q.2.2.2.2.2) conj0)))))), ?_⟩
     exact ih.1 y0 y1 ((v_u66 k (v_u66 k y2 (y0.getD y3.toNat T8.dflt).1) (y0.getD y3.toNat T8.dflt).2)) ((i64.wrap (y3 + 1))) _ h
    ·rw [if_neg q] at h; cases h
   ·rw [cond_f (show ((decide (y3 < (↑y0.length : Int)))) = false from c)] at h
    exact ih.2 y1 y2 0 _ h
  ·intro y0 y1 y2 r h
   rw [f_u65_7] at h
   refine Ev.tree hm (R := Rt) (K := (K_u65 k)) (l := []) (C := [(3, [.frz 5 false (RTy.list I), .autoB [0, 1, 5, 6] false []]), (7, [.autoB [1, 5, 7] false []])]) (E := [.frz 4 false (RTy.list I), .autoB [4] true []]) (n := 1000) (T := .test ((decide (y2 < (↑y0.length : Int)))) (.need [0 ≤ y2, y2 < (↑y0.length : Int), CC Tryz.prog 119 (args_u66 y1 (y0.getD y2.toNat T8.dflt).1) (bin_u66 y1 (y0.getD y2.toNat T8.dflt).1) (res_u66 (v_u66 k y1 (y0.getD y2.toNat T8.dflt).1)) (bo_u66 y1 (y0.getD y2.toNat T8.dflt).1 (v_u66 k y1 (y0.getD y2.toNat T8.dflt).1)), 0 ≤ y2, y2 < (↑y0.length : Int), CC Tryz.prog 119 (args_u66 (v_u66 k y1 (y0.getD y2.toNat T8.dflt).1) (y0.getD y2.toNat T8.dflt).2) (bin_u66 (v_u66 k y1 (y0.getD y2.toNat T8.dflt).1) (y0.getD y2.toNat T8.dflt).2) (res_u66 (v_u66 k (v_u66 k y1 (y0.getD y2.toNat T8.dflt).1) (y0.getD y2.toNat T8.dflt).2)) (bo_u66 (v_u66 k y1 (y0.getD y2.toNat T8.dflt).1) (y0.getD y2.toNat T8.dflt).2 (v_u66 k (v_u66 k y1 (y0.getD y2.toNat T8.dflt).1) (y0.getD y2.toNat T8.dflt).2))] (.cut 7 (placeAt Tryz.f105 7) (st_u65_7 y0 ((v_u66 k (v_u66 k y1 (y0.getD y2.toNat T8.dflt).1) (y0.getD y2.toNat T8.dflt).2)) ((i64.wrap (y2 + 1)))))) (.leaf (res_u65 y1) (bo_u65 a_ b_ y1))) (by kernel_rfl) ?_
   refine ⟨fun c => ?_, fun c => ?_⟩
   ·rw [cond_t (show ((decide (y2 < (↑y0.length : Int)))) = true from c)] at h
    by_cases q : (0 ≤ y2) ∧ (y2 < (↑y0.length : Int)) ∧ ((f_u66 k y1 (y0.getD y2.toNat T8.dflt).1).isSome = true) ∧ (0 ≤ y2) ∧ (y2 < (↑y0.length : Int)) ∧ ((f_u66 k (v_u66 k y1 (y0.getD y2.toNat T8.dflt).1) (y0.getD y2.toNat T8.dflt).2).isSome = true)
    ·rw [if_pos q] at h
     refine ⟨(conjC q.1 (conjC q.2.1 (conjC (cc_u66 k y1 (y0.getD y2.toNat T8.dflt).1 q.2.2.1) (conjC q.2.2.2.1 (conjC q.2.2.2.2.1 (conjC (cc_u66 k (v_u66 k y1 (y0.getD y2.toNat T8.dflt).1) (y0.getD y2.toNat T8.dflt).2 q.2.2.2.2.2) conj0)))))), ?_⟩
     exact ih.2 y0 ((v_u66 k (v_u66 k y1 (y0.getD y2.toNat T8.dflt).1) (y0.getD y2.toNat T8.dflt).2)) ((i64.wrap (y2 + 1))) _ h
    ·rw [if_neg q] at h; cases h
   ·rw [cond_f (show ((decide (y2 < (↑y0.length : Int)))) = false from c)] at h
    cases h; exact ⟨rfl, rfl⟩
theorem of_u65 (k : Nat) (a_ : List (T8).T) (b_ : List (T8).T) (r : R_u65) (h : f_u65 k a_ b_ = some r) : CC Tryz.prog 105 (args_u65 a_ b_) (bin_u65 a_ b_) (res_u65 r) (bo_u65 a_ b_ r) := by
 refine CC.of (fn := Tryz.f105) (by kernel_rfl) (by kernel_rfl) (by kernel_rfl) (by kernel_rfl) ?_
 unfold f_u65 at h
 refine Ev.tree hm (R := Rt) (K := (K_u65 k)) (l := []) (C := [(3, [.frz 5 false (RTy.list I), .autoB [0, 1, 5, 6] false []]), (7, [.autoB [1, 5, 7] false []])]) (E := [.frz 4 false (RTy.list I), .autoB [4] true []]) (n := 1000) (T := .cut 3 (placeAt Tryz.f105 3) (st_u65_3 a_ b_ ([]) 0)) (by kernel_rfl) ?_
 exact (ev_u65 k a_ b_ k).1 a_ b_ ([]) 0 _ h
theorem cc_u65 (k : Nat) (a_ : List (T8).T) (b_ : List (T8).T) (h : (f_u65 k a_ b_).isSome = true) : CC Tryz.prog 105 (args_u65 a_ b_) (bin_u65 a_ b_) (res_u65 (v_u65 k a_ b_)) (bo_u65 a_ b_ (v_u65 k a_ b_)) := by
 cases e : f_u65 k a_ b_ with
 | none => rw [e] at h; cases h
 | some r => rw [show v_u65 k a_ b_ = r by simp [v_u65, e]]; exact of_u65 k a_ b_ r e

end
end Go.AM
namespace Go.AM
open Go Go.Proofs Go.IntKind
set_option linter.unusedVariables false
noncomputable section
abbrev R_u60 : Type := Bool
def res_u60 (r : R_u60) : AV := .r (.v (.bool r))
def bo_u60 (l_ : List (T8).T) (x_ : Int) (r : R_u60) : List (Nat × Blk) := []
def args_u60 (l_ : List (T8).T) (x_ : Int) : List AV := [.r (.ro T8 l_), .r (.v (.int .i64 x_))]
def bin_u60 (l_ : List (T8).T) (x_ : Int) : List Blk := []
def st_u60_2 (y0 : List (T8).T) (y1 : Int) (y2 : Int) : St := ⟨mkS 28 [(0, .r (.ro T8 y0)), (1, .r (.v (.int .i64 y1))), (5, .r (.v (.int .i64 y2)))], []⟩
def f_u60_2 (k : Nat) : Nat → List (T8).T → Int → Int → Option R_u60
 | 0, _, _, _ => none
 | j + 1, y0, y1, y2 =>
 bif (decide (y2 < (↑y0.length : Int))) then
 if (0 ≤ y2) ∧ (y2 < (↑y0.length : Int)) ∧ (decide ((y0.getD y2.toNat T8.dflt).1 ≤ y1) = true → 0 ≤ y2) ∧ (decide ((y0.getD y2.toNat T8.dflt).1 ≤ y1) = true → y2 < (↑y0.length : Int)) then
 bif (decide ((y0.getD y2.toNat T8.dflt).1 ≤ y1) && decide (y1 < (y0.getD y2.toNat T8.dflt).2)) then
 some true
 else
 f_u60_2 k j y0 y1 ((i64.wrap (y2 + 1)))
 else none
 else
 some false
def f_u60 (k : Nat) (l_ : List (T8).T) (x_ : Int) : Option R_u60 :=
 f_u60_2 k k l_ x_ 0
def v_u60 (k : Nat) (l_ : List (T8).T) (x_ : Int) : R_u60 := (f_u60 k l_ x_).getD false
def K_u60 (k : Nat) : Calld := ⟨fun g xs => match g with
 | _ => none, fun g xs bs => match g with
 | _ => none⟩
theorem ev_u60 (k : Nat) (l_ : List (T8).T) (x_ : Int) : ∀ j, (∀ (y0 : List (T8).T) (y1 : Int) (y2 : Int) (r : R_u60), f_u60_2 k j y0 y1 y2 = some r → Ev Tryz.prog Tryz.f106 0 (placeAt Tryz.f106 2) (st_u60_2 y0 y1 y2) (res_u60 r) (bo_u60 l_ x_ r))
 | 0 => by
  intros; rename_i h; simp [f_u60_2] at h
 | j + 1 => by
  have ih := ev_u60 k l_ x_ j
  ·intro y0 y1 y2 r h
   rw [f_u60_2] at h
   refine Ev.tree hm (R := Rt) (K := (K_u60 k)) (l := []) (C := [(2, [.autoB [0, 1, 5] false []])]) (E := [.autoB [4] true []]) (n := 1000) (T := .test ((decide (y2 < (↑y0.length : Int)))) (.need [0 ≤ y2, y2 < (↑y0.length : Int), decide ((y0.getD y2.toNat T8.dflt).1 ≤ y1) = true → 0 ≤ y2, decide ((y0.getD y2.toNat T8.dflt).1 ≤ y1) = true → y2 < (↑y0.length : Int)] (.test ((decide ((y0.getD y2.toNat T8.dflt).1 ≤ y1) && decide (y1 < (y0.getD y2.toNat T8.dflt).2))) (.leaf (res_u60 true) (bo_u60 l_ x_ true)) (.cut 2 (placeAt Tryz.f106 2) (st_u60_2 y0 y1 ((i64.wrap (y2 + 1))))))) (.leaf (res_u60 false) (bo_u60 l_ x_ false))) (by kernel_rfl) ?_
   refine ⟨fun c => ?_, fun c => ?_⟩
   ·rw [cond_t (show ((decide (y2 < (↑y0.length : Int)))) = true from c)] at h
    by_cases q : (0 ≤ y2) ∧ (y2 < (↑y0.length : Int)) ∧ (decide ((y0.getD y2.toNat T8.dflt).1 ≤ y1) = true → 0 ≤ y2) ∧ (decide ((y0.getD y2.toNat T8.dflt).1 ≤ y1) = true → y2 < (↑y0.length : Int))
    ·rw [if_pos q] at h
     refine ⟨(conjC q.1 (conjC q.2.1 (conjC q.2.2.1 (conjC q.2.2.2 conj0)))), ?_⟩
     refine ⟨fun c => ?_, fun c => ?_⟩
     ·rw [cond_t (show ((decide ((y0.getD y2.toNat T8.dflt).1 ≤ y1) && decide (y1 < (y0.getD y2.toNat T8.dflt).2))) = true from c)] at h
      cases h; exact ⟨rfl, rfl⟩
     ·rw [cond_f (show ((decide ((y0.getD y2.toNat T8.dflt).1 ≤ y1) && decide (y1 < (y0.getD y2.toNat T8.dflt).2))) = false from c)] at h
      exact ih y0 y1 ((i64.wrap (y2 + 1))) _ h
    ·rw [if_neg q] at h; cases h
   ·rw [cond_f (show ((decide (y2 < (↑y0.length : Int)))) = false from c)] at h
    cases h; exact ⟨rfl, rfl⟩
theorem of_u60 (k : Nat) (l_ : List (T8).T) (x_ : Int) (r : R_u60) (h : f_u60 k l_ x_ = some r) : CC Tryz.prog 106 (args_u60 l_ x_) (bin_u60 l_ x_) (res_u60 r) (bo_u60 l_ x_ r) := by
 refine CC.of (fn := Tryz.f106) (by kernel_rfl) (by kernel_rfl) (by kernel_rfl) (by kernel_rfl) ?_
 unfold f_u60 at h
 refine Ev.tree hm (R := Rt) (K := (K_u60 k)) (l := []) (C := [(2, [.autoB [0, 1, 5] false []])]) (E := [.autoB [4] true []]) (n := 1000) (T := .cut 2 (placeAt Tryz.f106 2) (st_u60_2 l_ x_ 0)) (by kernel_rfl) ?_
 exact (ev_u60 k l_ x_ k) l_ x_ 0 _ h
theorem cc_u60 (k : Nat) (l_ : List (T8).T) (x_ : Int) (h : (f_u60 k l_ x_).isSome = true) : CC Tryz.prog 106 (args_u60 l_ x_) (bin_u60 l_ x_) (res_u60 (v_u60 k l_ x_)) (bo_u60 l_ x_ (v_u60 k l_ x_)) := by
 cases e : f_u60 k l_ x_ with
 | none => rw [e] at h; cases h
 | some r => rw [show v_u60 k l_ x_ = r by simp [v_u60, e]]; exact of_u60 k l_ x_ r e

end
end Go.AM
namespace Go.AM
open Go Go.Proofs Go.IntKind
set_option linter.unusedVariables false
noncomputable section
abbrev R_u64 : Type := List (T8).T
def res_u64 (r : R_u64) : AV := .r (.ro T8 r)
def bo_u64 (a_ : List (T8).T) (b_ : List (T8).T) (way_ : Int) (r : R_u64) : List (Nat × Blk) := []
def args_u64 (a_ : List (T8).T) (b_ : List (T8).T) (way_ : Int) : List AV := [.r (.ro T8 a_), .r (.ro T8 b_), .r (.v (.int .i64 way_))]
def bin_u64 (a_ : List (T8).T) (b_ : List (T8).T) (way_ : Int) : List Blk := []
def st_u64_4 (y0 : List (T8).T) (y1 : List (T8).T) (y2 : Int) (y3 : List (I).T) (y4 : Int) (y5 : List (T8).T) : St := ⟨mkS 107 [(0, .r (.ro T8 y0)), (1, .r (.ro T8 y1)), (2, .r (.v (.int .i64 y2))), (7, .r (.ro I y3)), (8, .own 1000000 0), (9, .r (.v (.int .i64 y4)))], [(1000000, 0, .row 124 T8 y5)]⟩
def f_u64_4 (k : Nat) : Nat → List (T8).T → List (T8).T → Int → List (I).T → Int → List (T8).T → Option R_u64
 | 0, _, _, _, _, _, _ => none
 | j + 1, y0, y1, y2, y3, y4, y5 =>
 bif (decide (i64.wrap (y4 + (1 : Int)) < (↑y3.length : Int))) then
 if (0 ≤ y4) ∧ (y4 < (↑y3.length : Int)) ∧ ((f_u60 k y0 (y3.getD y4.toNat I.dflt)).isSome = true) ∧ (0 ≤ y4) ∧ (y4 < (↑y3.length : Int)) ∧ ((f_u60 k y1 (y3.getD y4.toNat I.dflt)).isSome = true) then
 bif (y2 == (0 : Int) && (!v_u60 k y0 (y3.getD y4.toNat I.dflt)) && (!v_u60 k y1 (y3.getD y4.toNat I.dflt)) || y2 == (1 : Int) && (! (v_u60 k y0 (y3.getD y4.toNat I.dflt) && v_u60 k y1 (y3.getD y4.toNat I.dflt))) || y2 == (2 : Int) && (!v_u60 k y0 (y3.getD y4.toNat I.dflt) || v_u60 k y1 (y3.getD y4.toNat I.dflt))) then
 f_u64_4 k j y0 y1 y2 y3 ((i64.wrap (y4 + 1))) y5
 else
 if (decide (i64.wrap ((↑y5.length : Int) - (1 : Int)) ≥ (0 : Int)) = true → (0 : Int) ≤ i64.wrap ((↑y5.length : Int) - (1 : Int))) ∧ (decide (i64.wrap ((↑y5.length : Int) - (1 : Int)) ≥ (0 : Int)) = true → i64.wrap ((↑y5.length : Int) - (1 : Int)) < (↑y5.length : Int)) ∧ (decide (i64.wrap ((↑y5.length : Int) - (1 : Int)) ≥ (0 : Int)) = true → 0 ≤ y4) ∧ (decide (i64.wrap ((↑y5.length : Int) - (1 : Int)) ≥ (0 : Int)) = true → y4 < (↑y3.length : Int)) then
 bif (decide (i64.wrap ((↑y5.length : Int) - (1 : Int)) ≥ (0 : Int)) && (y5.getD (i64.wrap ((↑y5.length : Int) - (1 : Int))).toNat T8.dflt).2 == y3.getD y4.toNat I.dflt) then
 if ((0 : Int) ≤ i64.wrap (y4 + (1 : Int))) ∧ (i64.wrap (y4 + (1 : Int)) < (↑y3.length : Int)) ∧ ((0 : Int) ≤ i64.wrap ((↑y5.length : Int) - (1 : Int))) ∧ (i64.wrap ((↑y5.length : Int) - (1 : Int)) < (↑y5.length : Int)) then
 f_u64_4 k j y0 y1 y2 y3 ((i64.wrap (y4 + 1))) ((y5.set (i64.wrap ((↑y5.length : Int) - 1)).toNat ((y5.getD (i64.wrap ((↑y5.length : Int) - 1)).toNat T8.dflt).1, y3.getD (i64.wrap (y4 + 1)).toNat I.dflt)))
 else none
 else
 if (0 ≤ y4) ∧ (y4 < (↑y3.length : Int)) ∧ ((0 : Int) ≤ i64.wrap (y4 + (1 : Int))) ∧ (i64.wrap (y4 + (1 : Int)) < (↑y3.length : Int)) ∧ ((y5.length + [(y3.getD y4.toNat I.dflt, y3.getD (i64.wrap (y4 + (1 : Int))).toNat I.dflt)].length) * (16 : Nat) ≤ (140737488355328 : Nat)) then
 f_u64_4 k j y0 y1 y2 y3 ((i64.wrap (y4 + 1))) ((y5 ++ [(y3.getD y4.toNat I.dflt, y3.getD (i64.wrap (y4 + 1)).toNat I.dflt)]))
 else none
 else none
 else none
 else
 some y5
def f_u64 (k : Nat) (a_ : List (T8).T) (b_ : List (T8).T) (way_ : Int) : Option R_u64 :=
 if ((f_u65 k a_ b_).isSome = true) then
 f_u64_4 k k a_ b_ way_ ((v_u65 k a_ b_)) 0 ([])
 else none
def v_u64 (k : Nat) (a_ : List (T8).T) (b_ : List (T8).T) (way_ : Int) : R_u64 := (f_u64 k a_ b_ way_).getD []
def K_u64 (k : Nat) : Calld := ⟨fun g xs => match g with
 | 105 => match xs with
  | [_, _] => some [false, false]
  | _ => none
 | 106 => match xs with
  | [_, _] => some [false, false]
  | _ => none
 | _ => none, fun g xs bs => match g with
 | 105 => match xs, bs with
  | [.r (.ro ta__ qa_), .r (.ro tb__ qb_)], [] => (castL ta__ T8 qa_).bind fun a_ => (castL tb__ T8 qb_).bind fun b_ => some (.one (res_u65 (v_u65 k a_ b_), bo_u65 a_ b_ (v_u65 k a_ b_)))
  | _, _ => none
 | 106 => match xs, bs with
  | [.r (.ro tl__ ql_), .r (.v (.int .i64 x_))], [] => (castL tl__ T8 ql_).bind fun l_ => some (.one (res_u60 (v_u60 k l_ x_), bo_u60 l_ x_ (v_u60 k l_ x_)))
  | _, _ => none
 | _ => none⟩
theorem ev_u64 (k : Nat) (a_ : List (T8).T) (b_ : List (T8).T) (way_ : Int) : ∀ j, (∀ (y0 : List (T8).T) (y1 : List (T8).T) (y2 : Int) (y3 : List (I).T) (y4 : Int) (y5 : List (T8).T) (r : R_u64), f_u64_4 k j y0 y1 y2 y3 y4 y5 = some r → Ev Tryz.prog Tryz.f100 0 (placeAt Tryz.f100 4) (st_u64_4 y0 y1 y2 y3 y4 y5) (res_u64 r) (bo_u64 a_ b_ way_ r))
 | 0 => by
  intros; rename_i h; simp [f_u64_4] at h
 | j + 1 => by
  have ih := ev_u64 k a_ b_ way_ j
  ·intro y0 y1 y2 y3 y4 y5 r h
   rw [f_u64_4] at h
   refine Ev.tree hm (R := Rt) (K := (K_u64 k)) (l := []) (C := [(4, [.row 8 124 T8, .autoB [0, 1, 2, 7, 8, 9] false []])]) (E := [.frz 6 false (RTy.list T8), .autoB [6] true []]) (n := 1000) (T := .test ((decide (i64.wrap (y4 + (1 : Int)) < (↑y3.length : Int)))) (.need [0 ≤ y4, y4 < (↑y3.length : Int), CC Tryz.prog 106 (args_u60 y0 (y3.getD y4.toNat I.dflt)) (bin_u60 y0 (y3.getD y4.toNat I.dflt)) (res_u60 (v_u60 k y0 (y3.getD y4.toNat I.dflt))) (bo_u60 y0 (y3.getD y4.toNat I.dflt) (v_u60 k y0 (y3.getD y4.toNat I.dflt))), 0 ≤ y4, y4 < (↑y3.length : Int), CC Tryz.prog 106 (args_u60 y1 (y3.getD y4.toNat I.dflt)) (bin_u60 y1 (y3.getD y4.toNat I.dflt)) (res_u60 (v_u60 k y1 (y3.getD y4.toNat I.dflt))) (bo_u60 y1 (y3.getD y4.toNat I.dflt) (v_u60 k y1 (y3.getD y4.toNat I.dflt)))] (.test ((y2 == (0 : Int) && (!v_u60 k y0 (y3.getD y4.toNat I.dflt)) && (!v_u60 k y1 (y3.getD y4.toNat I.dflt)) || y2 == (1 : Int) && (! (v_u60 k y0 (y3.getD y4.toNat I.dflt) && v_u60 k y1 (y3.getD y4.toNat I.dflt))) || y2 == (2 : Int) && (!v_u60 k y0 (y3.getD y4.toNat I.dflt) || v_u60 k y1 (y3.getD y4.toNat I.dflt)))) (.cut 4 (placeAt Tryz.f100 4) (st_u64_4 y0 y1 y2 y3 ((i64.wrap (y4 + 1))) y5)) (.need [decide (i64.wrap ((↑y5.length : Int) - (1 : Int)) ≥ (0 : Int)) = true → (0 : Int) ≤ i64.wrap ((↑y5.length : Int) - (1 : Int)), decide (i64.wrap ((↑y5.length : Int) - (1 : Int)) ≥ (0 : Int)) = true → i64.wrap ((↑y5.length : Int) - (1 : Int)) < (↑y5.length : Int), decide (i64.wrap ((↑y5.length : Int) - (1 : Int)) ≥ (0 : Int)) = true → 0 ≤ y4, decide (i64.wrap ((↑y5.length : Int) - (1 : Int)) ≥ (0 : Int)) = true → y4 < (↑y3.length : Int)] (.test ((decide (i64.wrap ((↑y5.length : Int) - (1 : Int)) ≥ (0 : Int)) && (y5.getD (i64.wrap ((↑y5.length : Int) - (1 : Int))).toNat T8.dflt).2 == y3.getD y4.toNat I.dflt)) (.need [(0 : Int) ≤ i64.wrap (y4 + (1 : Int)), i64.wrap (y4 + (1 : Int)) < (↑y3.length : Int), (0 : Int) ≤ i64.wrap ((↑y5.length : Int) - (1 : Int)), i64.wrap ((↑y5.length : Int) - (1 : Int)) < (↑y5.length : Int)] (.cut 4 (placeAt Tryz.f100 4) (st_u64_4 y0 y1 y2 y3 ((i64.wrap (y4 + 1))) ((y5.set (i64.wrap ((↑y5.length : Int) - 1)).toNat ((y5.getD (i64.wrap ((↑y5.length : Int) - 1)).toNat T8.dflt).1, y3.getD (i64.wrap (y4 + 1)).toNat I.dflt)))))) (.need [0 ≤ y4, y4 < (↑y3.length : Int), (0 : Int) ≤ i64.wrap (y4 + (1 : Int)), i64.wrap (y4 + (1 : Int)) < (↑y3.length : Int), (y5.length + [(y3.getD y4.toNat I.dflt, y3.getD (i64.wrap (y4 + (1 : Int))).toNat I.dflt)].length) * (16 : Nat) ≤ (140737488355328 : Nat)] (.cut 4 (placeAt Tryz.f100 4) (st_u64_4 y0 y1 y2 y3 ((i64.wrap (y4 + 1))) ((y5 ++ [(y3.getD y4.toNat I.dflt, y3.getD (i64.wrap (y4 + 1)).toNat I.dflt)]))))))))) (.leaf (res_u64 y5) (bo_u64 a_ b_ way_ y5))) (by kernel_rfl) ?_
   refine ⟨fun c => ?_, fun c => ?_⟩
   ·rw [cond_t (show ((decide (i64.wrap (y4 + (1 : Int)) < (↑y3.length : Int)))) = true from c)] at h
    by_cases q : (0 ≤ y4) ∧ (y4 < (↑y3.length : Int)) ∧ ((f_u60 k y0 (y3.getD y4.toNat I.dflt)).isSome = true) ∧ (0 ≤ y4) ∧ (y4 < (↑y3.length : Int)) ∧ ((f_u60 k y1 (y3.getD y4.toNat I.dflt)).isSome = true)
    ·rw [if_pos q] at h
     refine ⟨(conjC q.1 (conjC q.2.1 (conjC (cc_u60 k y0 (y3.getD y4.toNat I.dflt) q.2.2.1) (conjC q.2.2.2.1 (conjC q.2.2.2.2.1 (conjC (cc_u60 k y1 (y3.getD y4.toNat I.dflt) q.2.2.2.2.2) conj0)))))), ?_⟩
     refine ⟨fun c => ?_, fun c => ?_⟩
     ·rw [cond_t (show ((y2 == (0 : Int) && (!v_u60 k y0 (y3.getD y4.toNat I.dflt)) && (!v_u60 k y1 (y3.getD y4.toNat I.dflt)) || y2 == (1 : Int) && (! (v_u60 k y0 (y3.getD y4.toNat I.dflt) && v_u60 k y1 (y3.getD y4.toNat I.dflt))) || y2 == (2 : Int) && (!v_u60 k y0 (y3.getD y4.toNat I.dflt) || v_u60 k y1 (y3.getD y4.toNat I.dflt)))) = true from c)] at h
      exact ih y0 y1 y2 y3 ((i64.wrap (y4 + 1))) y5 _ h
     ·rw [cond_f (show ((y2 == (0 : Int) && (!v_u60 k y0 (y3.getD y4.toNat I.dflt)) && (!v_u60 k y1 (y3.getD y4.toNat I.dflt)) || y2 == (1 : Int) && (! (v_u60 k y0 (y3.getD y4.toNat I.dflt) && v_u60 k y1 (y3.getD y4.toNat I.dflt))) || y2 == (2 : Int) && (!v_u60 k y0 (y3.getD y4.toNat I.dflt) || v_u60 k y1 (y3.getD y4.toNat I.dflt)))) = false from c)] at h
      by_cases q : (decide (i64.wrap ((↑y5.length : Int) - (1 : Int)) ≥ (0 : Int)) = true → (0 : Int) ≤ i64.wrap ((↑y5.length : Int) - (1 : Int))) ∧ (decide (i64.wrap ((↑y5.length : Int) - (1 : Int)) ≥ (0 : Int)) = true → i64.wrap ((↑y5.length : Int) - (1 : Int)) < (↑y5.length : Int)) ∧ (decide (i64.wrap ((↑y5.length : Int) - (1 : Int)) ≥ (0 : Int)) = true → 0 ≤ y4) ∧ (decide (i64.wrap ((↑y5.length : Int) - (1 : Int)) ≥ (0 : Int)) = true → y4 < (↑y3.length : Int))
      ·rw [if_pos q] at h
       refine ⟨(conjC q.1 (conjC q.2.1 (conjC q.2.2.1 (conjC q.2.2.2 conj0)))), ?_⟩
       refine ⟨fun c => ?_, fun c => ?_⟩
       ·rw [cond_t (show ((decide (i64.wrap ((↑y5.length : Int) - (1 : Int)) ≥ (0 : Int)) && (y5.getD (i64.wrap ((↑y5.length : Int) - (1 : Int))).toNat T8.dflt).2 == y3.getD y4.toNat I.dflt)) = true from c)] at h
        by_cases q : ((0 : Int) ≤ i64.wrap (y4 + (1 : Int))) ∧ (i64.wrap (y4 + (1 : Int)) < (↑y3.length : Int)) ∧ ((0 : Int) ≤ i64.wrap ((↑y5.length : Int) - (1 : Int))) ∧ (i64.wrap ((↑y5.length : Int) - (1 : Int)) < (↑y5.length : Int))
        ·rw [if_pos q] at h
         refine ⟨(conjC q.1 (conjC q.2.1 (conjC q.2.2.1 (conjC q.2.2.2 conj0)))), ?_⟩
         exact ih y0 y1 y2 y3 ((i64.wrap (y4 + 1))) ((y5.set (i64.wrap ((↑y5.length : Int) - 1)).toNat ((y5.getD (i64.wrap ((↑y5.length : Int) - 1)).toNat T8.dflt).1, y3.getD (i64.wrap (y4 + 1)).toNat I.dflt))) _ h
        ·rw [if_neg q] at h; cases h
       ·rw [cond_f (show ((decide (i64.wrap ((↑y5.length : Int) - (1 : Int)) ≥ (0 : Int)) && (y5.getD (i64.wrap ((↑y5.length : Int) - (1 : Int))).toNat T8.dflt).2 == y3.getD y4.toNat I.dflt)) = false from c)] at h
        by_cases q : (0 ≤ y4) ∧ (y4 < (↑y3.length : Int)) ∧ ((0 : Int) ≤ i64.wrap (y4 + (1 : Int))) ∧ (i64.wrap (y4 + (1 : Int)) < (↑y3.length : Int)) ∧ ((y5.length + [(y3.getD y4.toNat I.dflt, y3.getD (i64.wrap (y4 + (1 : Int))).toNat I.dflt)].length) * (16 : Nat) ≤ (140737488355328 : Nat))
        ·rw [if_pos q] at h
         refine ⟨(conjC q.1 (conjC q.2.1 (conjC q.2.2.1 (conjC q.2.2.2.1 (conjC q.2.2.2.2 conj0))))), ?_⟩
         exact ih y0 y1 y2 y3 ((i64.wrap (y4 + 1))) ((y5 ++ [(y3.getD y4.toNat I.dflt, y3.getD (i64.wrap (y4 + 1)).toNat I.dflt)])) _ h
        ·rw [if_neg q] at h; cases h
      ·rw [if_neg q] at h; cases h
    ·rw [if_neg q] at h; cases h
   ·rw [cond_f (show ((decide (i64.wrap (y4 + (1 : Int)) < (↑y3.length : Int)))) = false from c)] at h
    cases h; exact ⟨rfl, rfl⟩
theorem of_u64 (k : Nat) (a_ : List (T8).T) (b_ : List (T8).T) (way_ : Int) (r : R_u64) (h : f_u64 k a_ b_ way_ = some r) : CC Tryz.prog 100 (args_u64 a_ b_ way_) (bin_u64 a_ b_ way_) (res_u64 r) (bo_u64 a_ b_ way_ r) := by
 refine CC.of (fn := Tryz.f100) (by kernel_rfl) (by kernel_rfl) (by kernel_rfl) (by kernel_rfl) ?_
 unfold f_u64 at h
 refine Ev.tree hm (R := Rt) (K := (K_u64 k)) (l := []) (C := [(4, [.row 8 124 T8, .autoB [0, 1, 2, 7, 8, 9] false []])]) (E := [.frz 6 false (RTy.list T8), .autoB [6] true []]) (n := 1000) (T := .need [CC Tryz.prog 105 (args_u65 a_ b_) (bin_u65 a_ b_) (res_u65 (v_u65 k a_ b_)) (bo_u65 a_ b_ (v_u65 k a_ b_))] (.cut 4 (placeAt Tryz.f100 4) (st_u64_4 a_ b_ way_ ((v_u65 k a_ b_)) 0 ([])))) (by kernel_rfl) ?_
 by_cases q : ((f_u65 k a_ b_).isSome = true)
 ·rw [if_pos q] at h
  refine ⟨(conjC (cc_u65 k a_ b_ q) conj0), ?_⟩
  exact (ev_u64 k a_ b_ way_ k) a_ b_ way_ ((v_u65 k a_ b_)) 0 ([]) _ h
 ·rw [if_neg q] at h; cases h
theorem cc_u64 (k : Nat) (a_ : List (T8).T) (b_ : List (T8).T) (way_ : Int) (h : (f_u64 k a_ b_ way_).isSome = true) : CC Tryz.prog 100 (args_u64 a_ b_ way_) (bin_u64 a_ b_ way_) (res_u64 (v_u64 k a_ b_ way_)) (bo_u64 a_ b_ way_ (v_u64 k a_ b_ way_)) := by
 cases e : f_u64 k a_ b_ way_ with
 | none => rw [e] at h; cases h
 | some r => rw [show v_u64 k a_ b_ way_ = r by simp [v_u64, e]]; exact of_u64 k a_ b_ way_ r e

end
end Go.AM
namespace Go.AM
open Go Go.Proofs Go.IntKind
set_option linter.unusedVariables false
noncomputable section
abbrev R_u63 : Type := List (T8).T × Int
def res_u63 (r : R_u63) : AV := .tup [.r (.ro T8 r.1), .r (.v (.int .i64 r.2))]
def bo_u63 (a_ : List (T8).T) (b_ : List (T8).T) (way_ : Int) (r : R_u63) : List (Nat × Blk) := []
def args_u63 (a_ : List (T8).T) (b_ : List (T8).T) (way_ : Int) : List AV := [.r (.ro T8 a_), .r (.ro T8 b_), .r (.v (.int .i64 way_))]
def bin_u63 (a_ : List (T8).T) (b_ : List (T8).T) (way_ : Int) : List Blk := []
def f_u63 (k : Nat) (a_ : List (T8).T) (b_ : List (T8).T) (way_ : Int) : Option R_u63 :=
 if ((f_u59 k a_).isSome = true) then
 bif (v_u59 k a_ != (0 : Int)) then
 some (([], v_u59 k a_))
 else
 if ((f_u59 k b_).isSome = true) then
 bif (v_u59 k b_ != (0 : Int)) then
 some (([], v_u59 k b_))
 else
 if ((f_u64 k a_ b_ way_).isSome = true) then
 bif (decide ((↑ (List.length (v_u64 k a_ b_ way_)) : Int) > (256 : Int))) then
 some (([], 8))
 else
 some ((v_u64 k a_ b_ way_, 0))
 else none
 else none
 else none
def v_u63 (k : Nat) (a_ : List (T8).T) (b_ : List (T8).T) (way_ : Int) : R_u63 := (f_u63 k a_ b_ way_).getD ([], 0)
def K_u63 (k : Nat) : Calld := ⟨fun g xs => match g with
 | 99 => match xs with
  | [_] => some [false]
  | _ => none
 | 100 => match xs with
  | [_, _, _] => some [false, false, false]
  | _ => none
 | _ => none, fun g xs bs => match g with
 | 99 => match xs, bs with
  | [.r (.ro tl__ ql_)], [] => (castL tl__ T8 ql_).bind fun l_ => some (.one (res_u59 (v_u59 k l_), bo_u59 l_ (v_u59 k l_)))
  | _, _ => none
 | 100 => match xs, bs with
  | [.r (.ro ta__ qa_), .r (.ro tb__ qb_), .r (.v (.int .i64 way_))], [] => (castL ta__ T8 qa_).bind fun a_ => (castL tb__ T8 qb_).bind fun b_ => some (.one (res_u64 (v_u64 k a_ b_ way_), bo_u64 a_ b_ way_ (v_u64 k a_ b_ way_)))
  | _, _ => none
 | _ => none⟩
theorem of_u63 (k : Nat) (a_ : List (T8).T) (b_ : List (T8).T) (way_ : Int) (r : R_u63) (h : f_u63 k a_ b_ way_ = some r) : CC Tryz.prog 93 (args_u63 a_ b_ way_) (bin_u63 a_ b_ way_) (res_u63 r) (bo_u63 a_ b_ way_ r) := by
 refine CC.of (fn := Tryz.f93) (by kernel_rfl) (by kernel_rfl) (by kernel_rfl) (by kernel_rfl) ?_
 unfold f_u63 at h
 refine Ev.tree hm (R := Rt) (K := (K_u63 k)) (l := []) (C := []) (E := [.frz 6 false (RTy.list T8), .autoB [6, 7] true []]) (n := 1000) (T := .need [CC Tryz.prog 99 (args_u59 a_) (bin_u59 a_) (res_u59 (v_u59 k a_)) (bo_u59 a_ (v_u59 k a_))] (.test ((v_u59 k a_ != (0 : Int))) (.leaf (res_u63 (([], v_u59 k a_))) (bo_u63 a_ b_ way_ (([], v_u59 k a_)))) (.need [CC Tryz.prog 99 (args_u59 b_) (bin_u59 b_) (res_u59 (v_u59 k b_)) (bo_u59 b_ (v_u59 k b_))] (.test ((v_u59 k b_ != (0 : Int))) (.leaf (res_u63 (([], v_u59 k b_))) (bo_u63 a_ b_ way_ (([], v_u59 k b_)))) (.need [CC Tryz.prog 100 (args_u64 a_ b_ way_) (bin_u64 a_ b_ way_) (res_u64 (v_u64 k a_ b_ way_)) (bo_u64 a_ b_ way_ (v_u64 k a_ b_ way_))] (.test ((decide ((↑ (List.length (v_u64 k a_ b_ way_)) : Int) > (256 : Int)))) (.leaf (res_u63 (([], 8))) (bo_u63 a_ b_ way_ (([], 8)))) (.leaf (res_u63 ((v_u64 k a_ b_ way_, 0))) (bo_u63 a_ b_ way_ ((v_u64 k a_ b_ way_, 0)))))))))) (by kernel_rfl) ?_
 by_cases q : ((f_u59 k a_).isSome = true)
 ·rw [if_pos q] at h
  refine ⟨(conjC (cc_u59 k a_ q) conj0), ?_⟩
  refine ⟨fun c => ?_, fun c => ?_⟩
  ·rw [cond_t (show ((v_u59 k a_ != (0 : Int))) = true from c)] at h
   cases h; exact ⟨rfl, rfl⟩
  ·rw [cond_f (show ((v_u59 k a_ != (0 : Int))) = false from c)] at h
   by_cases q : ((f_u59 k b_).isSome = true)
   ·rw [if_pos q] at h
    refine ⟨(conjC (cc_u59 k b_ q) conj0), ?_⟩
    refine ⟨fun c => ?_, fun c => ?_⟩
    ·rw [cond_t (show ((v_u59 k b_ != (0 : Int))) = true from c)] at h
     cases h; exact ⟨rfl, rfl⟩
    ·rw [cond_f (show ((v_u59 k b_ != (0 : Int))) = false from c)] at h
     by_cases q : ((f_u64 k a_ b_ way_).isSome = true)
     ·rw [if_pos q] at h
      refine ⟨(conjC (cc_u64 k a_ b_ way_ q) conj0), ?_⟩
      refine ⟨fun c => ?_, fun c => ?_⟩
      ·rw [cond_t (show ((decide ((↑ (List.length (v_u64 k a_ b_ way_)) : Int) > (256 : Int)))) = true from c)] at h
       cases h; exact ⟨rfl, rfl⟩
      ·rw [cond_f (show ((decide ((↑ (List.length (v_u64 k a_ b_ way_)) : Int) > (256 : Int)))) = false from c)] at h
       cases h; exact ⟨rfl, rfl⟩
     ·rw [if_neg q] at h; cases h
   ·rw [if_neg q] at h; cases h
 ·rw [if_neg q] at h; cases h
theorem cc_u63 (k : Nat) (a_ : List (T8).T) (b_ : List (T8).T) (way_ : Int) (h : (f_u63 k a_ b_ way_).isSome = true) : CC Tryz.prog 93 (args_u63 a_ b_ way_) (bin_u63 a_ b_ way_) (res_u63 (v_u63 k a_ b_ way_)) (bo_u63 a_ b_ way_ (v_u63 k a_ b_ way_)) := by
 cases e : f_u63 k a_ b_ way_ with
 | none => rw [e] at h; cases h
 | some r => rw [show v_u63 k a_ b_ way_ = r by simp [v_u63, e]]; exact of_u63 k a_ b_ way_ r e

end
end Go.AM
namespace Go.AM
open Go Go.Proofs Go.IntKind
set_option linter.unusedVariables false
noncomputable section
abbrev R_u61 : Type := List (T8).T × Int
def res_u61 (r : R_u61) : AV := .tup [.r (.ro T8 r.1), .r (.v (.int .i64 r.2))]
def bo_u61 (l_ : List (T8).T) (r : R_u61) : List (Nat × Blk) := []
def args_u61 (l_ : List (T8).T) : List AV := [.r (.ro T8 l_)]
def bin_u61 (l_ : List (T8).T) : List Blk := []
def f_u61 (k : Nat) (l_ : List (T8).T) : Option R_u61 :=
 if ((f_u63 k l_ [] 0).isSome = true) then
 some (((v_u63 k l_ [] 0).1, (v_u63 k l_ [] 0).2))
 else none
def v_u61 (k : Nat) (l_ : List (T8).T) : R_u61 := (f_u61 k l_).getD ([], 0)
def K_u61 (k : Nat) : Calld := ⟨fun g xs => match g with
 | 93 => match xs with
  | [_, _, _] => some [false, false, false]
  | _ => none
 | _ => none, fun g xs bs => match g with
 | 93 => match xs, bs with
  | [.r (.ro ta__ qa_), .r (.ro tb__ qb_), .r (.v (.int .i64 way_))], [] => (castL ta__ T8 qa_).bind fun a_ => (castL tb__ T8 qb_).bind fun b_ => some (.one (res_u63 (v_u63 k a_ b_ way_), bo_u63 a_ b_ way_ (v_u63 k a_ b_ way_)))
  | _, _ => none
 | _ => none⟩
theorem of_u61 (k : Nat) (l_ : List (T8).T) (r : R_u61) (h : f_u61 k l_ = some r) : CC Tryz.prog 88 (args_u61 l_) (bin_u61 l_) (res_u61 r) (bo_u61 l_ r) := by
 refine CC.of (fn := Tryz.f88) (by kernel_rfl) (by kernel_rfl) (by kernel_rfl) (by kernel_rfl) ?_
 unfold f_u61 at h
 refine Ev.tree hm (R := Rt) (K := (K_u61 k)) (l := []) (C := []) (E := [.frz 2 false (RTy.list T8), .autoB [2, 3] true []]) (n := 1000) (T := .need [CC Tryz.prog 93 (args_u63 l_ [] 0) (bin_u63 l_ [] 0) (res_u63 (v_u63 k l_ [] 0)) (bo_u63 l_ [] 0 (v_u63 k l_ [] 0))] (.leaf (res_u61 (((v_u63 k l_ [] 0).1, (v_u63 k l_ [] 0).2))) (bo_u61 l_ (((v_u63 k l_ [] 0).1, (v_u63 k l_ [] 0).2))))) (by kernel_rfl) ?_
 by_cases q : ((f_u63 k l_ [] 0).isSome = true)
 ·rw [if_pos q] at h
  refine ⟨(conjC (cc_u63 k l_ [] 0 q) conj0), ?_⟩
  cases h; exact ⟨rfl, rfl⟩
 ·rw [if_neg q] at h; cases h
theorem cc_u61 (k : Nat) (l_ : List (T8).T) (h : (f_u61 k l_).isSome = true) : CC Tryz.prog 88 (args_u61 l_) (bin_u61 l_) (res_u61 (v_u61 k l_)) (bo_u61 l_ (v_u61 k l_)) := by
 cases e : f_u61 k l_ with
 | none => rw [e] at h; cases h
 | some r => rw [show v_u61 k l_ = r by simp [v_u61, e]]; exact of_u61 k l_ r e

end
end Go.AM
namespace Go.AM
open Go Go.Proofs Go.IntKind
set_option linter.unusedVariables false
noncomputable section
abbrev R_u70 : Type := List (T8).T × Int
def res_u70 (r : R_u70) : AV := .tup [.r (.ro T8 r.1), .r (.v (.int .i64 r.2))]
def bo_u70 (m_ : List (T0).T) (r : R_u70) : List (Nat × Blk) := []
def args_u70 (m_ : List (T0).T) : List AV := [.r (.ro T0 m_)]
def bin_u70 (m_ : List (T0).T) : List Blk := []
def st_u70_6 (y0 : List (T0).T) (y1 : Int) (y2 : List (T8).T) : St := ⟨mkS 51 [(0, .r (.ro T0 y0)), (5, .own 1000000 0), (6, .r (.v (.int .i64 y1)))], [(1000000, 0, .row 124 T8 y2)]⟩
def st_u70_10 (y0 : List (T8).T) : St := ⟨mkS 51 [(5, .r (.ro T8 y0))], []⟩
mutual
def f_u70_6 (k : Nat) : Nat → List (T0).T → Int → List (T8).T → Option R_u70
 | 0, _, _, _ => none
 | j + 1, y0, y1, y2 =>
 bif (decide (y1 < (↑y0.length : Int))) then
 if (0 ≤ y1) ∧ (y1 < (↑y0.length : Int)) ∧ (0 ≤ y1) ∧ (y1 < (↑y0.length : Int)) ∧ (0 ≤ y1) ∧ (y1 < (↑y0.length : Int)) ∧ ((f_u74 k (y0.getD y1.toNat T0.dflt) (i64.wrap ((y0.getD y1.toNat T0.dflt).2.1 - 1))).isSome = true) then
 if ((y2.length + [(if v_u74 k (y0.getD y1.toNat T0.dflt) (i64.wrap ((y0.getD y1.toNat T0.dflt).2.1 - (1 : Int))) < (y0.getD y1.toNat T0.dflt).1 then v_u74 k (y0.getD y1.toNat T0.dflt) (i64.wrap ((y0.getD y1.toNat T0.dflt).2.1 - (1 : Int))) else (y0.getD y1.toNat T0.dflt).1, i64.wrap ((if v_u74 k (y0.getD y1.toNat T0.dflt) (i64.wrap ((y0.getD y1.toNat T0.dflt).2.1 - (1 : Int))) > (y0.getD y1.toNat T0.dflt).1 then v_u74 k (y0.getD y1.toNat T0.dflt) (i64.wrap ((y0.getD y1.toNat T0.dflt).2.1 - (1 : Int))) else (y0.getD y1.toNat T0.dflt).1) + (1 : Int)))].length) * (16 : Nat) ≤ (140737488355328 : Nat)) then
 f_u70_6 k j y0 ((i64.wrap (y1 + 1))) ((y2 ++ [(if v_u74 k (y0.getD y1.toNat T0.dflt) (i64.wrap ((y0.getD y1.toNat T0.dflt).2.1 - 1)) < (y0.getD y1.toNat T0.dflt).1 then v_u74 k (y0.getD y1.toNat T0.dflt) (i64.wrap ((y0.getD y1.toNat T0.dflt).2.1 - 1)) else (y0.getD y1.toNat T0.dflt).1, i64.wrap ((if v_u74 k (y0.getD y1.toNat T0.dflt) (i64.wrap ((y0.getD y1.toNat T0.dflt).2.1 - 1)) > (y0.getD y1.toNat T0.dflt).1 then v_u74 k (y0.getD y1.toNat T0.dflt) (i64.wrap ((y0.getD y1.toNat T0.dflt).2.1 - 1)) else (y0.getD y1.toNat T0.dflt).1) + 1))]))
 else none
 else none
 else
 f_u70_10 k j y2
def f_u70_10 (k : Nat) : Nat → List (T8).T → Option R_u70
 | 0, _ => none
 | j + 1, y0 =>
 if ((f_u61 k y0).isSome = true) then
 some (((v_u61 k y0).1, (v_u61 k y0).2))
 else none
end
def f_u70 (k : Nat) (m_ : List (T0).T) : Option R_u70 :=
 if ((f_u68 k m_).isSome = true) then
 bif (v_u68 k m_ != (0 : Int)) then
 some (([], v_u68 k m_))
 else
 f_u70_6 k k m_ 0 ([])
 else none
def v_u70 (k : Nat) (m_ : List (T0).T) : R_u70 := (f_u70 k m_).getD ([], 0)
def K_u70 (k : Nat) : Calld := ⟨fun g xs => match g with
 | 54 => match xs with
  | [_] => some [false]
  | _ => none
 | 57 => match xs with
  | [_, _] => some [false, false]
  | _ => none
 | 88 => match xs with
  | [_] => some [false]
  | _ => none
 | _ => none, fun g xs bs => match g with
 | 54 => match xs, bs with
  | [.r (.ro tm__ qm_)], [] => (castL tm__ T0 qm_).bind fun m_ => some (.one (res_u68 (v_u68 k m_), bo_u68 m_ (v_u68 k m_)))
  | _, _ => none
 | 57 => match xs, bs with
  | [.agg qr_, .r (.v (.int .i64 k_))], [] => (decS [] T0 qr_).bind fun r_ => some (.one (res_u74 (v_u74 k r_ k_), bo_u74 r_ k_ (v_u74 k r_ k_)))
  | _, _ => none
 | 88 => match xs, bs with
  | [.r (.ro tl__ ql_)], [] => (castL tl__ T8 ql_).bind fun l_ => some (.one (res_u61 (v_u61 k l_), bo_u61 l_ (v_u61 k l_)))
  | _, _ => none
 | _ => none⟩
theorem ev_u70 (k : Nat) (m_ : List (T0).T) : ∀ j, (∀ (y0 : List (T0).T) (y1 : Int) (y2 : List (T8).T) (r : R_u70), f_u70_6 k j y0 y1 y2 = some r → Ev Tryz.prog Tryz.f80 0 (placeAt Tryz.f80 6) (st_u70_6 y0 y1 y2) (res_u70 r) (bo_u70 m_ r)) ∧ (∀ (y0 : List (T8).T) (r : R_u70), f_u70_10 k j y0 = some r → Ev Tryz.prog Tryz.f80 0 (placeAt Tryz.f80 10) (st_u70_10 y0) (res_u70 r) (bo_u70 m_ r))
 | 0 => by
  refine ⟨?_, ?_⟩ <;> intros <;> rename_i h <;> simp [f_u70_6, f_u70_10] at h
 | j + 1 => by
  have ih := ev_u70 k m_ j
  refine ⟨?_, ?_⟩
  ·intro y0 y1 y2 r h
   rw [f_u70_6] at h
   refine Ev.tree hm (R := Rt) (K := (K_u70 k)) (l := [10]) (C := [(6, [.row 5 124 T8, .autoB [0, 5, 6] false []]), (10, [.frz 5 false (RTy.list T8), .autoB [5] false []])]) (E := [.frz 2 false (RTy.list T8), .autoB [2, 3] true []]) (n := 1000) (T := .test ((decide (y1 < (↑y0.length : Int)))) (.need [0 ≤ y1, y1 < (↑y0.length : Int), 0 ≤ y1, y1 < (↑y0.length : Int), 0 ≤ y1, y1 < (↑y0.length : Int), CC Tryz.prog 57 (args_u74 (y0.getD y1.toNat T0.dflt) (i64.wrap ((y0.getD y1.toNat T0.dflt).2.1 - 1))) (bin_u74 (y0.getD y1.toNat T0.dflt) (i64.wrap ((y0.getD y1.toNat T0.dflt).2.1 - 1))) (res_u74 (v_u74 k (y0.getD y1.toNat T0.dflt) (i64.wrap ((y0.getD y1.toNat T0.dflt).2.1 - 1)))) (bo_u74 (y0.getD y1.toNat T0.dflt) (i64.wrap ((y0.getD y1.toNat T0.dflt).2.1 - 1)) (v_u74 k (y0.getD y1.toNat T0.dflt) (i64.wrap ((y0.getD y1.toNat T0.dflt).2.1 - 1))))] (.need [(y2.length + [(if v_u74 k (y0.getD y1.toNat T0.dflt) (i64.wrap ((y0.getD y1.toNat T0.dflt).2.1 - (1 : Int))) < (y0.getD y1.toNat T0.dflt).1 then v_u74 k (y0.getD y1.toNat T0.dflt) (i64.wrap ((y0.getD y1.toNat T0.dflt).2.1 - (1 : Int))) else (y0.getD y1.toNat T0.dflt).1, i64.wrap ((if v_u74 k (y0.getD y1.toNat T0.dflt) (i64.wrap ((y0.getD y1.toNat T0.dflt).2.1 - (1 : Int))) > (y0.getD y1.toNat T0.dflt).1 then v_u74 k (y0.getD y1.toNat T0.dflt) (i64.wrap ((y0.getD y1.toNat T0.dflt).2.1 - (1 : Int))) else (y0.getD y1.toNat T0.dflt).1) + (1 : Int)))].length) * (16 : Nat) ≤ (140737488355328 : Nat)] (.cut 6 (placeAt Tryz.f80 6) (st_u70_6 y0 ((i64.wrap (y1 + 1))) ((y2 ++ [(if v_u74 k (y0.getD y1.toNat T0.dflt) (i64.wrap ((y0.getD y1.toNat T0.dflt).2.1 - 1)) < (y0.getD y1.toNat T0.dflt).1 then v_u74 k (y0.getD y1.toNat T0.dflt) (i64.wrap ((y0.getD y1.toNat T0.dflt).2.1 - 1)) else (y0.getD y1.toNat T0.dflt).1, i64.wrap ((if v_u74 k (y0.getD y1.toNat T0.dflt) (i64.wrap ((y0.getD y1.toNat T0.dflt).2.1 - 1)) > (y0.getD y1.toNat T0.dflt).1 then v_u74 k (y0.getD y1.toNat T0.dflt) (i64.wrap ((y0.getD y1.toNat T0.dflt).2.1 - 1)) else (y0.getD y1.toNat T0.dflt).1) + 1))])))))) (.cut 10 (placeAt Tryz.f80 10) (st_u70_10 y2))) (by kernel_rfl) ?_
   refine ⟨fun c => ?_, fun c => ?_⟩
   ·rw [cond_t (show ((decide (y1 < (↑y0.length : Int)))) = true from c)] at h
    by_cases q : (0 ≤ y1) ∧ (y1 < (↑y0.length : Int)) ∧ (0 ≤ y1) ∧ (y1 < (↑y0.length : Int)) ∧ (0 ≤ y1) ∧ (y1 < (↑y0.length : Int)) ∧ ((f_u74 k (y0.getD y1.toNat T0.dflt) (i64.wrap ((y0.getD y1.toNat T0.dflt).2.1 - 1))).isSome = true)
    ·rw [if_pos q] at h
     refine ⟨(conjC q.1 (conjC q.2.1 (conjC q.2.2.1 (conjC q.2.2.2.1 (conjC q.2.2.2.2.1 (conjC q.2.2.2.2.2.1 (conjC (cc_u74 k (y0.getD y1.toNat T0.dflt) (i64.wrap ((y0.getD y1.toNat T0.dflt).2.1 - 1)) q.2.2.2.2.2.2) conj0))))))), ?_⟩
     by_cases q : ((y2.length + [(if v_u74 k (y0.getD y1.toNat T0.dflt) (i64.wrap ((y0.getD y1.toNat T0.dflt).2.1 - (1 : Int))) < (y0.getD y1.toNat T0.dflt).1 then v_u74 k (y0.getD y1.toNat T0.dflt) (i64.wrap ((y0.getD y1.toNat T0.dflt).2.1 - (1 : Int))) else (y0.getD y1.toNat T0.dflt).1, i64.wrap ((if v_u74 k (y0.getD y1.toNat T0.dflt) (i64.wrap ((y0.getD y1.toNat T0.dflt).2.1 - (1 : Int))) > (y0.getD y1.toNat T0.dflt).1 then v_u74 k (y0.getD y1.toNat T0.dflt) (i64.wrap ((y0.getD y1.toNat T0.dflt).2.1 - (1 : Int))) else (y0.getD y1.toNat T0.dflt).1) + (1 : Int)))].length) * (16 : Nat) ≤ (140737488355328 : Nat))
     ·rw [if_pos q] at h
      refine ⟨(conjC q conj0), ?_⟩
      exact ih.1 y0 ((i64.wrap (y1 + 1))) ((y2 ++ [(if v_u74 k (y0.getD y1.toNat T0.dflt) (i64.wrap ((y0.getD y1.toNat T0.dflt).2.1 - 1)) < (y0.getD y1.toNat T0.dflt).1 then v_u74 k (y0.getD y1.toNat T0.dflt) (i64.wrap ((y0.getD y1.toNat T0.dflt).2.1 - 1)) else (y0.getD y1.toNat T0.dflt).1, i64.wrap ((if v_u74 k (y0.getD y1.toNat T0.dflt) (i64.wrap ((y0.getD y1.toNat T0.dflt).2.1 - 1)) > (y0.getD y1.toNat T0.dflt).1 then v_u74 k (y0.getD y1.toNat T0.dflt) (i64.wrap ((y0.getD y1.toNat T0.dflt).2.1 - 1)) else (y0.getD y1.toNat T0.dflt).1) + 1))])) _ h
     ·rw [if_neg q] at h; cases h
    ·rw [if_neg q] at h; cases h
   ·rw [cond_f (show ((decide (y1 < (↑y0.length : Int)))) = false from c)] at h
    exact ih.2 y2 _ h
  ·intro y0 r h
   rw [f_u70_10] at h
   refine Ev.tree hm (R := Rt) (K := (K_u70 k)) (l := [10]) (C := [(6, [.row 5 124 T8, .autoB [0, 5, 6] false []]), (10, [.frz 5 false (RTy.list T8), .autoB [5] false []])]) (E := [.frz 2 false (RTy.list T8), .autoB [2, 3] true []]) (n := 1000) (T := .need [CC Tryz.prog 88 (args_u61 y0) (bin_u61 y0) (res_u61 (v_u61 k y0)) (bo_u61 y0 (v_u61 k y0))] (.leaf (res_u70 (((v_u61 k y0).1, (v_u61 k y0).2))) (bo_u70 m_ (((v_u61 k y0).1, (v_u61 k y0).2))))) (by kernel_rfl) ?_
   by_cases q : ((f_u61 k y0).isSome = true)
   ·rw [if_pos q] at h
    refine ⟨(conjC (cc_u61 k y0 q) conj0), ?_⟩
    cases h; exact ⟨rfl, rfl⟩
   ·rw [if_neg q] at h; cases h
theorem of_u70 (k : Nat) (m_ : List (T0).T) (r : R_u70) (h : f_u70 k m_ = some r) : CC Tryz.prog 80 (args_u70 m_) (bin_u70 m_) (res_u70 r) (bo_u70 m_ r) := by
 refine CC.of (fn := Tryz.f80) (by kernel_rfl) (by kernel_rfl) (by kernel_rfl) (by kernel_rfl) ?_
 unfold f_u70 at h
 refine Ev.tree hm (R := Rt) (K := (K_u70 k)) (l := [10]) (C := [(6, [.row 5 124 T8, .autoB [0, 5, 6] false []]), (10, [.frz 5 false (RTy.list T8), .autoB [5] false []])]) (E := [.frz 2 false (RTy.list T8), .autoB [2, 3] true []]) (n := 1000) (T := .need [CC Tryz.prog 54 (args_u68 m_) (bin_u68 m_) (res_u68 (v_u68 k m_)) (bo_u68 m_ (v_u68 k m_))] (.test ((v_u68 k m_ != (0 : Int))) (.leaf (res_u70 (([], v_u68 k m_))) (bo_u70 m_ (([], v_u68 k m_)))) (.cut 6 (placeAt Tryz.f80 6) (st_u70_6 m_ 0 ([]))))) (by kernel_rfl) ?_
 by_cases q : ((f_u68 k m_).isSome = true)
 ·rw [if_pos q] at h
  refine ⟨(conjC (cc_u68 k m_ q) conj0), ?_⟩
  refine ⟨fun c => ?_, fun c => ?_⟩
  ·rw [cond_t (show ((v_u68 k m_ != (0 : Int))) = true from c)] at h
   cases h; exact ⟨rfl, rfl⟩
  ·rw [cond_f (show ((v_u68 k m_ != (0 : Int))) = false from c)] at h
   exact (ev_u70 k m_ k).1 m_ 0 ([]) _ h
 ·rw [if_neg q] at h; cases h
theorem cc_u70 (k : Nat) (m_ : List (T0).T) (h : (f_u70 k m_).isSome = true) : CC Tryz.prog 80 (args_u70 m_) (bin_u70 m_) (res_u70 (v_u70 k m_)) (bo_u70 m_ (v_u70 k m_)) := by
 cases e : f_u70 k m_ with
 | none => rw [e] at h; cases h
 | some r => rw [show v_u70 k m_ = r by simp [v_u70, e]]; exact of_u70 k m_ r e

end
end Go.AM
namespace Go.AM
open Go Go.Proofs Go.IntKind
set_option linter.unusedVariables false
noncomputable section
abbrev R_u62 : Type := Int × Int
def res_u62 (r : R_u62) : AV := .tup [.r (.v (.int .i64 r.1)), .r (.v (.int .i64 r.2))]
def bo_u62 (l_ : List (T8).T) (r : R_u62) : List (Nat × Blk) := []
def args_u62 (l_ : List (T8).T) : List AV := [.r (.ro T8 l_)]
def bin_u62 (l_ : List (T8).T) : List Blk := []
def st_u62_4 (y0 : List (T8).T) (y1 : Int) (y2 : Int) (y3 : Int) : St := ⟨mkS 34 [(4, .r (.ro T8 y0)), (5, .r (.v (.int .i64 y1))), (6, .r (.v (.int .i64 y2))), (7, .r (.v (.int .i64 y3)))], []⟩
def f_u62_4 (k : Nat) : Nat → List (T8).T → Int → Int → Int → Option R_u62
 | 0, _, _, _, _ => none
 | j + 1, y0, y1, y2, y3 =>
 bif (decide (y3 < (↑y0.length : Int))) then
 if (0 ≤ y3) ∧ (y3 < (↑y0.length : Int)) ∧ (0 ≤ y3) ∧ (y3 < (↑y0.length : Int)) then
 f_u62_4 k j y0 y1 ((i64.wrap (i64.wrap (y2 + (y0.getD y3.toNat T8.dflt).2) - (y0.getD y3.toNat T8.dflt).1))) ((i64.wrap (y3 + 1)))
 else none
 else
 some ((y2, y1))
def f_u62 (k : Nat) (l_ : List (T8).T) : Option R_u62 :=
 if ((f_u61 k l_).isSome = true) then
 f_u62_4 k k ((v_u61 k l_).1) ((v_u61 k l_).2) 0 0
 else none
def v_u62 (k : Nat) (l_ : List (T8).T) : R_u62 := (f_u62 k l_).getD (0, 0)
def K_u62 (k : Nat) : Calld := ⟨fun g xs => match g with
 | 88 => match xs with
  | [_] => some [false]
  | _ => none
 | _ => none, fun g xs bs => match g with
 | 88 => match xs, bs with
  | [.r (.ro tl__ ql_)], [] => (castL tl__ T8 ql_).bind fun l_ => some (.one (res_u61 (v_u61 k l_), bo_u61 l_ (v_u61 k l_)))
  | _, _ => none
 | _ => none⟩
theorem ev_u62 (k : Nat) (l_ : List (T8).T) : ∀ j, (∀ (y0 : List (T8).T) (y1 : Int) (y2 : Int) (y3 : Int) (r : R_u62), f_u62_4 k j y0 y1 y2 y3 = some r → Ev Tryz.prog Tryz.f81 0 (placeAt Tryz.f81 4) (st_u62_4 y0 y1 y2 y3) (res_u62 r) (bo_u62 l_ r))
 | 0 => by
  intros; rename_i h; simp [f_u62_4] at h
 | j + 1 => by
  have ih := ev_u62 k l_ j
  ·intro y0 y1 y2 y3 r h
   rw [f_u62_4] at h
   refine Ev.tree hm (R := Rt) (K := (K_u62 k)) (l := []) (C := [(4, [.autoB [4, 5, 6, 7] false []])]) (E := [.autoB [2, 3] true []]) (n := 1000) (T := .test ((decide (y3 < (↑y0.length : Int)))) (.need [0 ≤ y3, y3 < (↑y0.length : Int), 0 ≤ y3, y3 < (↑y0.length : Int)] (.cut 4 (placeAt Tryz.f81 4) (st_u62_4 y0 y1 ((i64.wrap (i64.wrap (y2 + (y0.getD y3.toNat T8.dflt).2) - (y0.getD y3.toNat T8.dflt).1))) ((i64.wrap (y3 + 1)))))) (.leaf (res_u62 ((y2, y1))) (bo_u62 l_ ((y2, y1))))) (by kernel_rfl) ?_
   refine ⟨fun c => ?_, fun c => ?_⟩
   ·rw [cond_t (show ((decide (y3 < (↑y0.length : Int)))) = true from c)] at h
    by_cases q : (0 ≤ y3) ∧ (y3 < (↑y0.length : Int)) ∧ (0 ≤ y3) ∧ (y3 < (↑y0.length : Int))
    ·rw [if_pos q] at h
     refine ⟨(conjC q.1 (conjC q.2.1 (conjC q.2.2.1 (conjC q.2.2.2 conj0)))), ?_⟩
     exact ih y0 y1 ((i64.wrap (i64.wrap (y2 + (y0.getD y3.toNat T8.dflt).2) - (y0.getD y3.toNat T8.dflt).1))) ((i64.wrap (y3 + 1))) _ h
    ·rw [if_neg q] at h; cases h
   ·rw [cond_f (show ((decide (y3 < (↑y0.length : Int)))) = false from c)] at h
    cases h; exact ⟨rfl, rfl⟩
theorem of_u62 (k : Nat) (l_ : List (T8).T) (r : R_u62) (h : f_u62 k l_ = some r) : CC Tryz.prog 81 (args_u62 l_) (bin_u62 l_) (res_u62 r) (bo_u62 l_ r) := by
 refine CC.of (fn := Tryz.f81) (by kernel_rfl) (by kernel_rfl) (by kernel_rfl) (by kernel_rfl) ?_
 unfold f_u62 at h
 refine Ev.tree hm (R := Rt) (K := (K_u62 k)) (l := []) (C := [(4, [.autoB [4, 5, 6, 7] false []])]) (E := [.autoB [2, 3] true []]) (n := 1000) (T := .need [CC Tryz.prog 88 (args_u61 l_) (bin_u61 l_) (res_u61 (v_u61 k l_)) (bo_u61 l_ (v_u61 k l_))] (.cut 4 (placeAt Tryz.f81 4) (st_u62_4 ((v_u61 k l_).1) ((v_u61 k l_).2) 0 0))) (by kernel_rfl) ?_
 by_cases q : ((f_u61 k l_).isSome = true)
 ·rw [if_pos q] at h
  refine ⟨(conjC (cc_u61 k l_ q) conj0), ?_⟩
  exact (ev_u62 k l_ k) ((v_u61 k l_).1) ((v_u61 k l_).2) 0 0 _ h
 ·rw [if_neg q] at h; cases h
theorem cc_u62 (k : Nat) (l_ : List (T8).T) (h : (f_u62 k l_).isSome = true) : CC Tryz.prog 81 (args_u62 l_) (bin_u62 l_) (res_u62 (v_u62 k l_)) (bo_u62 l_ (v_u62 k l_)) := by
 cases e : f_u62 k l_ with
 | none => rw [e] at h; cases h
 | some r => rw [show v_u62 k l_ = r by simp [v_u62, e]]; exact of_u62 k l_ r e

end
end Go.AM
namespace Go.AM
open Go Go.Proofs Go.IntKind
set_option linter.unusedVariables false
noncomputable section
abbrev R_u71 : Type := Bool
def res_u71 (r : R_u71) : AV := .r (.v (.bool r))
def bo_u71 (m_ : List (T0).T) (r : R_u71) : List (Nat × Blk) := []
def args_u71 (m_ : List (T0).T) : List AV := [.r (.ro T0 m_)]
def bin_u71 (m_ : List (T0).T) : List Blk := []
def f_u71 (k : Nat) (m_ : List (T0).T) : Option R_u71 :=
 if ((f_u68 k m_).isSome = true) then
 bif (v_u68 k m_ != (0 : Int)) then
 some false
 else
 if ((f_u70 k m_).isSome = true) then
 if ((f_u62 k (v_u70 k m_).1).isSome = true) then
 bif ((v_u62 k (v_u70 k m_).1).2 == (0 : Int)) then
 if (((v_u62 k (v_u70 k m_).1).2 == (0 : Int)) = true) ∧ ((f_u75 k m_).isSome = true) then
 some (true && (v_u62 k (v_u70 k m_).1).1 == v_u75 k m_)
 else none
 else
 if (((v_u62 k (v_u70 k m_).1).2 == (0 : Int)) = false) then
 some false
 else none
 else none
 else none
 else none
def v_u71 (k : Nat) (m_ : List (T0).T) : R_u71 := (f_u71 k m_).getD false
def K_u71 (k : Nat) : Calld := ⟨fun g xs => match g with
 | 77 => match xs with
  | [_] => some [false]
  | _ => none
 | 54 => match xs with
  | [_] => some [false]
  | _ => none
 | 80 => match xs with
  | [_] => some [false]
  | _ => none
 | 81 => match xs with
  | [_] => some [false]
  | _ => none
 | _ => none, fun g xs bs => match g with
 | 77 => match xs, bs with
  | [.r (.ro tm__ qm_)], [] => (castL tm__ T0 qm_).bind fun m_ => some (.one (res_u75 (v_u75 k m_), bo_u75 m_ (v_u75 k m_)))
  | _, _ => none
 | 54 => match xs, bs with
  | [.r (.ro tm__ qm_)], [] => (castL tm__ T0 qm_).bind fun m_ => some (.one (res_u68 (v_u68 k m_), bo_u68 m_ (v_u68 k m_)))
  | _, _ => none
 | 80 => match xs, bs with
  | [.r (.ro tm__ qm_)], [] => (castL tm__ T0 qm_).bind fun m_ => some (.one (res_u70 (v_u70 k m_), bo_u70 m_ (v_u70 k m_)))
  | _, _ => none
 | 81 => match xs, bs with
  | [.r (.ro tl__ ql_)], [] => (castL tl__ T8 ql_).bind fun l_ => some (.one (res_u62 (v_u62 k l_), bo_u62 l_ (v_u62 k l_)))
  | _, _ => none
 | _ => none⟩
theorem of_u71 (k : Nat) (m_ : List (T0).T) (r : R_u71) (h : f_u71 k m_ = some r) : CC Tryz.prog 61 (args_u71 m_) (bin_u71 m_) (res_u71 r) (bo_u71 m_ r) := by
 refine CC.of (fn := Tryz.f61) (by kernel_rfl) (by kernel_rfl) (by kernel_rfl) (by kernel_rfl) ?_
 unfold f_u71 at h
 refine Ev.tree hm (R := Rt) (K := (K_u71 k)) (l := []) (C := []) (E := [.autoB [2] true []]) (n := 1000) (T := .need [CC Tryz.prog 54 (args_u68 m_) (bin_u68 m_) (res_u68 (v_u68 k m_)) (bo_u68 m_ (v_u68 k m_))] (.test ((v_u68 k m_ != (0 : Int))) (.leaf (res_u71 false) (bo_u71 m_ false)) (.need [CC Tryz.prog 80 (args_u70 m_) (bin_u70 m_) (res_u70 (v_u70 k m_)) (bo_u70 m_ (v_u70 k m_))] (.need [CC Tryz.prog 81 (args_u62 (v_u70 k m_).1) (bin_u62 (v_u70 k m_).1) (res_u62 (v_u62 k (v_u70 k m_).1)) (bo_u62 (v_u70 k m_).1 (v_u62 k (v_u70 k m_).1))] (.test (((v_u62 k (v_u70 k m_).1).2 == (0 : Int))) (.need [((v_u62 k (v_u70 k m_).1).2 == (0 : Int)) = true, CC Tryz.prog 77 (args_u75 m_) (bin_u75 m_) (res_u75 (v_u75 k m_)) (bo_u75 m_ (v_u75 k m_))] (.leaf (res_u71 (true && (v_u62 k (v_u70 k m_).1).1 == v_u75 k m_)) (bo_u71 m_ (true && (v_u62 k (v_u70 k m_).1).1 == v_u75 k m_)))) (.need [((v_u62 k (v_u70 k m_).1).2 == (0 : Int)) = false] (.leaf (res_u71 false) (bo_u71 m_ false)))))))) (by kernel_rfl) ?_
 by_cases q : ((f_u68 k m_).isSome = true)
 ·rw [if_pos q] at h
  refine ⟨(conjC (cc_u68 k m_ q) conj0), ?_⟩
  refine ⟨fun c => ?_, fun c => ?_⟩
  ·rw [cond_t (show ((v_u68 k m_ != (0 : Int))) = true from c)] at h
   cases h; exact ⟨rfl, rfl⟩
  ·rw [cond_f (show ((v_u68 k m_ != (0 : Int))) = false from c)] at h
   by_cases q : ((f_u70 k m_).isSome = true)
   ·rw [if_pos q] at h
    refine ⟨(conjC (cc_u70 k m_ q) conj0), ?_⟩
    by_cases q : ((f_u62 k (v_u70 k m_).1).isSome = true)
    ·rw [if_pos q] at h
     refine ⟨(conjC (cc_u62 k (v_u70 k m_).1 q) conj0), ?_⟩
     refine ⟨fun c => ?_, fun c => ?_⟩
     ·rw [cond_t (show (((v_u62 k (v_u70 k m_).1).2 == (0 : Int))) = true from c)] at h
      by_cases q : (((v_u62 k (v_u70 k m_).1).2 == (0 : Int)) = true) ∧ ((f_u75 k m_).isSome = true)
      ·rw [if_pos q] at h
       refine ⟨(conjC q.1 (conjC (cc_u75 k m_ q.2) conj0)), ?_⟩
       cases h; exact ⟨rfl, rfl⟩
      ·rw [if_neg q] at h; cases h
     ·rw [cond_f (show (((v_u62 k (v_u70 k m_).1).2 == (0 : Int))) = false from c)] at h
      by_cases q : (((v_u62 k (v_u70 k m_).1).2 == (0 : Int)) = false)
      ·rw [if_pos q] at h
       refine ⟨(conjC q conj0), ?_⟩
       cases h; exact ⟨rfl, rfl⟩
      ·rw [if_neg q] at h; cases h
    ·rw [if_neg q] at h; cases h
   ·rw [if_neg q] at h; cases h
 ·rw [if_neg q] at h; cases h
theorem cc_u71 (k : Nat) (m_ : List (T0).T) (h : (f_u71 k m_).isSome = true) : CC Tryz.prog 61 (args_u71 m_) (bin_u71 m_) (res_u71 (v_u71 k m_)) (bo_u71 m_ (v_u71 k m_)) := by
 cases e : f_u71 k m_ with
 | none => rw [e] at h; cases h
 | some r => rw [show v_u71 k m_ = r by simp [v_u71, e]]; exact of_u71 k m_ r e

end
end Go.AM
namespace Go.AM
open Go Go.Proofs Go.IntKind

theorem iso_image_s (k : Nat) (r : Rn) (x : Int) (h1 : -4611686018427387904 ≤ r.1) (h2 : r.1 ≤ 4611686018427387903) (h3 : -4611686018427387904 ≤ x) (h4 : x ≤ 4611686018427387903) : f_u43 k r x = some (img r x) := by
 unfold f_u43 img
 cases r.2.2
 ·rw [cond_false, wrap_id (by omega) (by omega), if_neg (by decide)]
 ·rw [cond_true, wrap_id (by omega) (by omega), if_pos rfl]
theorem iso_image_v (k : Nat) (r : Rn) (x : Int) (h1 : -4611686018427387904 ≤ r.1) (h2 : r.1 ≤ 4611686018427387903) (h3 : -4611686018427387904 ≤ x) (h4 : x ≤ 4611686018427387903) : v_u43 k r x = img r x := by
 unfold v_u43; rw [iso_image_s k r x h1 h2 h3 h4]; rfl
theorem ref13_image_s (k : Nat) (r : Rn) (x : Int) (h1 : -4611686018427387904 ≤ r.1) (h2 : r.1 ≤ 4611686018427387903) (h3 : -4611686018427387904 ≤ x) (h4 : x ≤ 4611686018427387903) : f_u74 k r x = some (img r x) := by
 unfold f_u74 img
 cases r.2.2
 ·rw [cond_false, wrap_id (by omega) (by omega), if_neg (by decide)]
 ·rw [cond_true, wrap_id (by omega) (by omega), if_pos rfl]
theorem ref13_image_v (k : Nat) (r : Rn) (x : Int) (h1 : -4611686018427387904 ≤ r.1) (h2 : r.1 ≤ 4611686018427387903) (h3 : -4611686018427387904 ≤ x) (h4 : x ≤ 4611686018427387903) : v_u74 k r x = img r x := by
 unfold v_u74; rw [ref13_image_s k r x h1 h2 h3 h4]; rfl

theorem good_test {r : Rn} : good r ↔ ¬ ((decide (r.2.1 < 1) || decide (r.2.1 > 17179869184) || decide (r.1 < 0) || decide (r.1 ≥ 17179869184)) = true) ∧ ¬ ((r.2.2 && decide (r.1 - r.2.1 + 1 < 0) || (!r.2.2) && decide (r.1 + r.2.1 > 17179869184)) = true) := by
 unfold good
 simp only [Bool.or_eq_true, decide_eq_true_eq, Bool.and_eq_true, Bool.not_eq_true', not_or, not_and]
 constructor
 ·rintro ⟨h1, h2, h3, h4, h5, h6⟩
  refine ⟨⟨⟨⟨by omega, by omega⟩, by omega⟩, by omega⟩, fun h => ?_, fun h => ?_⟩
  ·have := h5 h; omega
  ·have := h6 h; omega
 ·rintro ⟨⟨⟨⟨h1, h2⟩, h3⟩, h4⟩, h5, h6⟩
  refine ⟨by omega, by omega, by omega, by omega, fun h => ?_, fun h => ?_⟩
  ·have := h5 h; omega
  ·have := h6 h; omega

def chkGo : Int → List Rn → Int
 | n, [] => if n > 17179869184 then 21 else 0
 | n, r :: t => if good r then chkGo (n + r.2.1) t else 1
theorem chkGo_eq : ∀ (m : List Rn) (n : Int), chkGo n m = if goods m then (if n + lenS m > 17179869184 then 21 else 0) else 1
 | [], n => by simp [chkGo, goods, lenS]
 | r :: t, n => by
  unfold chkGo
  by_cases h : good r
  ·rw [if_pos h, chkGo_eq t]
   by_cases h2 : goods t
   ·rw [if_pos h2, if_pos (show goods (r :: t) from ⟨h, h2⟩)]
    rw [show n + lenS (r :: t) = n + r.2.1 + lenS t by simp only [lenS]; omega]
   ·rw [if_neg h2, if_neg (fun h3 : goods (r :: t) => h2 h3.2)]
  ·rw [if_neg h, if_neg (fun h3 : goods (r :: t) => h h3.1)]
theorem chk_go (m : List Rn) : chk m = if m.length > 256 then 8 else chkGo 0 m := by
 unfold chk; rw [chkGo_eq, Int.zero_add]

theorem iso_Check_l (k : Nat) (m : List Rn) (hm : m.length ≤ 256) : ∀ (j i : Nat) (n : Int), i ≤ m.length → m.length - i < j → 0 ≤ n → n ≤ (i : Int) * 17179869184 →
  f_u32_5 k j n m (m.length : Int) (i : Int) = some (chkGo n (m.drop i)) := by
 intro j
 induction j with
 | zero => intros; omega
 | succ j ih =>
  intro i n hi hj h0 hn
  unfold f_u32_5
  by_cases h : i < m.length
  ·rw [decide_eq_true (by omega : (i : Int) < (m.length : Int)), cond_true, if_pos ⟨by omega, by omega⟩, drop_cons' m i T0.dflt h]
   rw [Int.toNat_natCast]
   unfold chkGo
   by_cases hg : good (m.getD i T0.dflt)
   ·obtain ⟨t1, t2⟩ := good_test.1 hg
    have hr := hg
    obtain ⟨g1, g2, g3, g4, _, _⟩ := hr
    rw [if_pos hg, Bool.eq_false_iff.2 t1, cond_false, wrap_id (i := (m.getD i T0.dflt).fst - (m.getD i T0.dflt).snd.fst) (by omega) (by omega), wrap_id (i := (m.getD i T0.dflt).fst - (m.getD i T0.dflt).snd.fst + 1) (by omega) (by omega), wrap_id (i := (m.getD i T0.dflt).fst + (m.getD i T0.dflt).snd.fst) (by omega) (by omega), Bool.eq_false_iff.2 t2, cond_false, wrap_id (i := n + (m.getD i T0.dflt).snd.fst) (by omega) (by omega), wrapS i (by omega)]
    exact ih (i + 1) _ (by omega) (by omega) (by omega) (by omega)
   ·rw [if_neg hg]
    by_cases t1 : (decide ((m.getD i T0.dflt).2.1 < 1) || decide ((m.getD i T0.dflt).2.1 > 17179869184) || decide ((m.getD i T0.dflt).1 < 0) || decide ((m.getD i T0.dflt).1 ≥ 17179869184)) = true
    ·rw [t1, cond_true]
    ·have t2 := fun t2 => hg (good_test.2 ⟨t1, t2⟩)
     have t2 := Classical.not_not.1 t2
     have t3 := t1
     simp only [Bool.or_eq_true, decide_eq_true_eq, not_or] at t3
     obtain ⟨⟨⟨q1, q2⟩, q3⟩, q4⟩ := t3
     rw [Bool.eq_false_iff.2 t1, cond_false, wrap_id (i := (m.getD i T0.dflt).fst - (m.getD i T0.dflt).snd.fst) (by omega) (by omega), wrap_id (i := (m.getD i T0.dflt).fst - (m.getD i T0.dflt).snd.fst + 1) (by omega) (by omega), wrap_id (i := (m.getD i T0.dflt).fst + (m.getD i T0.dflt).snd.fst) (by omega) (by omega), t2, cond_true]
  ·rw [decide_eq_false (by omega : ¬ (i : Int) < (m.length : Int)), cond_false, drop_all m i (by omega)]
   unfold chkGo
   by_cases h : n > 17179869184
   ·rw [decide_eq_true h, cond_true, if_pos h]
   ·rw [decide_eq_false h, cond_false, if_neg h]
theorem iso_Check_s (k : Nat) (hk : 300 ≤ k) (m : List Rn) : f_u32 k m = some (chk m) := by
 unfold f_u32
 rw [chk_go]
 by_cases h : m.length > 256
 ·rw [decide_eq_true (by omega : (m.length : Int) > 256), cond_true, if_pos h]
 ·rw [decide_eq_false (by omega : ¬ (m.length : Int) > 256), cond_false, if_neg h]
  exact iso_Check_l k m (by omega) k 0 0 (by omega) (by omega) (by omega) (by omega)
theorem iso_Check_v (k : Nat) (hk : 300 ≤ k) (m : List Rn) : v_u32 k m = chk m := by
 unfold v_u32; rw [iso_Check_s k hk]; rfl

theorem iso_length_l (k : Nat) (m : List Rn) (hg : goods m) (hm : m.length ≤ 1000) : ∀ (j i : Nat) (n : Int), i ≤ m.length → m.length - i < j → 0 ≤ n → n ≤ (i : Int) * 17179869184 →
  f_u45_3 k j n m (m.length : Int) (i : Int) = some (n + lenS (m.drop i)) := by
 intro j
 induction j with
 | zero => intros; omega
 | succ j ih =>
  intro i n hi hj h0 hn
  unfold f_u45_3
  by_cases h : i < m.length
  ·have hgr : good (m.getD i T0.dflt) := hg.mem _ (by simp [h])
   rw [decide_eq_true (by omega : (i : Int) < (m.length : Int)), cond_true, if_pos ⟨by omega, by omega⟩, drop_cons' m i T0.dflt h]
   rw [Int.toNat_natCast]
   generalize m.getD i T0.dflt = r at hgr
   obtain ⟨g1, g2, _⟩ := hgr
   rw [wrap_id (i := n + r.snd.fst) (by omega) (by omega), wrapS i (by omega), ih (i + 1) _ (by omega) (by omega) (by omega) (by omega)]
   simp only [lenS, Int.add_assoc]
  ·rw [decide_eq_false (by omega : ¬ (i : Int) < (m.length : Int)), cond_false, drop_all m i (by omega)]
   simp [lenS]
theorem iso_length_s (k : Nat) (m : List Rn) (hg : goods m) (hm : m.length ≤ 1000) (hk : m.length < k) : f_u45 k m = some (lenS m) := by
 unfold f_u45
 have := iso_length_l k m hg hm k 0 0 (by omega) (by omega) (by omega) (by omega)
 rw [Int.zero_add] at this
 exact this
theorem iso_length_v (k : Nat) (m : List Rn) (hg : goods m) (hm : m.length ≤ 1000) (hk : m.length < k) : v_u45 k m = lenS m := by
 unfold v_u45; rw [iso_length_s k m hg hm hk]; rfl

theorem ref13_good_s (k : Nat) (r : Rn) : f_u73 k r = some (decide (good r)) := by
 unfold f_u73
 by_cases t1 : (decide (r.2.1 < 1) || decide (r.2.1 > 17179869184) || decide (r.1 < 0) || decide (r.1 ≥ 17179869184)) = true
 ·rw [t1, cond_true, decide_eq_false (fun h => (good_test.1 h).1 t1)]
 ·rw [Bool.eq_false_iff.2 t1, cond_false]
  have t3 := t1
  simp only [Bool.or_eq_true, decide_eq_true_eq, not_or] at t3
  obtain ⟨⟨⟨q1, q2⟩, q3⟩, q4⟩ := t3
  rw [wrap_id (i := r.fst - r.snd.fst) (by omega) (by omega), wrap_id (i := r.fst - r.snd.fst + 1) (by omega) (by omega), wrap_id (i := r.fst + r.snd.fst) (by omega) (by omega)]
  cases hb : r.snd.snd
  ·rw [cond_false]
   congr 1
   apply decide_eq_decide.2
   constructor
   ·intro h
    exact ⟨by omega, by omega, by omega, by omega, fun e => by simp [hb] at e, fun _ => h⟩
   ·rintro ⟨_, _, _, _, _, h⟩
    exact h hb
  ·rw [cond_true]
   congr 1
   apply decide_eq_decide.2
   constructor
   ·intro h
    exact ⟨by omega, by omega, by omega, by omega, fun _ => h, fun e => by simp [hb] at e⟩
   ·rintro ⟨_, _, _, _, h, _⟩
    exact h hb
theorem ref13_good_v (k : Nat) (r : Rn) : v_u73 k r = decide (good r) := by
 unfold v_u73; rw [ref13_good_s]; rfl

theorem ref13_length_l (k : Nat) (m : List Rn) (hg : goods m) (hm : m.length ≤ 1000) : ∀ (j i : Nat) (n : Int), i ≤ m.length → m.length - i < j → 0 ≤ n → n ≤ (i : Int) * 17179869184 →
  f_u75_3 k j m n (i : Int) = some (n + lenS (m.drop i)) := by
 intro j
 induction j with
 | zero => intros; omega
 | succ j ih =>
  intro i n hi hj h0 hn
  unfold f_u75_3
  by_cases h : i < m.length
  ·have hgr : good (m.getD i T0.dflt) := hg.mem _ (by simp [h])
   rw [decide_eq_true (by omega : (i : Int) < (m.length : Int)), cond_true, if_pos ⟨by omega, by omega⟩, drop_cons' m i T0.dflt h]
   rw [Int.toNat_natCast]
   generalize m.getD i T0.dflt = r at hgr
   obtain ⟨g1, g2, _⟩ := hgr
   rw [wrap_id (i := n + r.snd.fst) (by omega) (by omega), wrapS i (by omega), ih (i + 1) _ (by omega) (by omega) (by omega) (by omega)]
   simp only [lenS, Int.add_assoc]
  ·rw [decide_eq_false (by omega : ¬ (i : Int) < (m.length : Int)), cond_false, drop_all m i (by omega)]
   simp [lenS]
theorem ref13_length_s (k : Nat) (m : List Rn) (hg : goods m) (hm : m.length ≤ 1000) (hk : m.length < k) : f_u75 k m = some (lenS m) := by
 unfold f_u75
 have := ref13_length_l k m hg hm k 0 0 (by omega) (by omega) (by omega) (by omega)
 rw [Int.zero_add] at this
 exact this
theorem ref13_length_v (k : Nat) (m : List Rn) (hg : goods m) (hm : m.length ≤ 1000) (hk : m.length < k) : v_u75 k m = lenS m := by
 unfold v_u75; rw [ref13_length_s k m hg hm hk]; rfl

theorem ref13_Check_l (k : Nat) (hk : 300 ≤ k) (m : List Rn) (hm : m.length ≤ 256) : ∀ (j i : Nat), i ≤ m.length → m.length - i < j → goods (m.take i) →
  f_u68_4 k j m (i : Int) = some (if goods m then (if lenS m > 17179869184 then 21 else 0) else 1) := by
 intro j
 induction j with
 | zero => intros; omega
 | succ j ih =>
  intro i hi hj hg
  unfold f_u68_4
  by_cases h : i < m.length
  ·rw [decide_eq_true (by omega : (i : Int) < (m.length : Int)), cond_true, ref13_good_s, ref13_good_v, if_pos ⟨by omega, by omega, rfl⟩, Int.toNat_natCast]
   have hmem : m.getD i T0.dflt ∈ m := by simp [h]
   have htk : m.take (i + 1) = m.take i ++ [m.getD i T0.dflt] := by
    rw [List.take_add_one]; simp [h]
   by_cases hgr : good (m.getD i T0.dflt)
   ·rw [decide_eq_true hgr, Bool.not_true, cond_false, wrapS i (by omega)]
    exact ih (i + 1) (by omega) (by omega) (by rw [htk, goods_append]; exact ⟨hg, hgr, trivial⟩)
   ·rw [decide_eq_false hgr, Bool.not_false, cond_true, if_neg (fun hgs => hgr (goods.mem hgs _ hmem))]
  ·have : m.take i = m := List.take_of_length_le (by omega)
   rw [this] at hg
   rw [decide_eq_false (by omega : ¬ (i : Int) < (m.length : Int)), cond_false, ref13_length_s k m hg (by omega) (by omega), ref13_length_v k m hg (by omega) (by omega), Option.isSome_some, if_pos rfl, if_pos hg]
   by_cases h : lenS m > 17179869184
   ·rw [decide_eq_true h, cond_true, if_pos h]
   ·rw [decide_eq_false h, cond_false, if_neg h]
theorem ref13_Check_s (k : Nat) (hk : 300 ≤ k) (m : List Rn) : f_u68 k m = some (chk m) := by
 unfold f_u68 chk
 by_cases h : m.length > 256
 ·rw [decide_eq_true (by omega : (m.length : Int) > 256), cond_true, if_pos h]
 ·rw [decide_eq_false (by omega : ¬ (m.length : Int) > 256), cond_false, if_neg h]
  exact ref13_Check_l k hk m (by omega) k 0 (by omega) (by omega) (by simp [goods])
theorem ref13_Check_v (k : Nat) (hk : 300 ≤ k) (m : List Rn) : v_u68 k m = chk m := by
 unfold v_u68; rw [ref13_Check_s k hk]; rfl
end Go.AM
namespace Go.AM
open Go Go.Proofs Go.IntKind

def Bnd (r : Rn) : Prop := -1125899906842624 ≤ r.1 ∧ r.1 ≤ 1125899906842624 ∧ 0 ≤ r.2.1 ∧ r.2.1 ≤ 1125899906842624
theorem good.bnd {r : Rn} (h : good r) : Bnd r := by
 obtain ⟨h1, h2, h3, h4, _⟩ := h
 exact ⟨by omega, by omega, by omega, by omega⟩

theorem addS_nil (r : Rn) (h : ¬ r.2.1 < 1) : addS [] r = [prt r 0 r.2.1] := by
 unfold addS; rw [if_neg h]; rfl
theorem addS_last (pre : List Rn) (c r : Rn) (h : ¬ r.2.1 < 1) : addS (pre ++ [c]) r = (bif apart c r then pre ++ [c] ++ [prt r 0 r.2.1]
   else bif decide (r.2.1 > 1) && !(r.2.2 == (stp c r == -1)) then pre ++ [(c.1, c.2.1 + 1, stp c r == -1), prt r 1 (r.2.1 - 1)]
   else pre ++ [(c.1, c.2.1 + r.2.1, stp c r == -1)]) := by
 unfold addS; rw [if_neg h]; simp
theorem addS_zero (b : List Rn) (r : Rn) (h : r.2.1 < 1) : addS b r = b := by unfold addS; rw [if_pos h]

theorem prt_zero (r : Rn) (n : Int) : prt (prt r 1 n) 0 n = prt r 1 n := by
 unfold prt
 have e : img (img r 1, n, r.2.2 && decide (n > 1)) 0 = img r 1 := by
  unfold img; cases r.2.2 && decide (n > 1) <;> simp
 rw [e]
 simp
theorem prt_bnd {r : Rn} (h : Bnd r) {x n : Int} (h0 : 0 ≤ x) (h1 : x ≤ r.2.1) (h2 : 0 ≤ n) (h3 : n ≤ r.2.1) : -2251799813685248 ≤ (prt r x n).1 ∧ (prt r x n).1 ≤ 2251799813685248 ∧ (prt r x n).2.1 = n := by
 obtain ⟨b1, b2, b3, b4⟩ := h
 unfold prt img
 refine ⟨?_, ?_, rfl⟩ <;> cases r.2.2 <;> simp only [Bool.false_eq_true, if_false, if_true] <;> omega

theorem apart_turn {c r : Rn} (hc : 1 ≤ c.2.1) (h1 : apart c r = false) (h3 : (r.2.2 == (stp c r == -1)) = false) : apart (c.1, c.2.1 + 1, stp c r == -1) (prt r 1 (r.2.1 - 1)) = true := by
 obtain ⟨ca, cl, cb⟩ := c
 obtain ⟨ra, rl, rb⟩ := r
 unfold apart at h1
 simp only [Bool.or_eq_false_iff] at h1
 obtain ⟨h1, h2⟩ := h1
 have hs : stp (ca, cl, cb) (ra, rl, rb) = 1 ∨ stp (ca, cl, cb) (ra, rl, rb) = -1 := by
  generalize stp (ca, cl, cb) (ra, rl, rb) = s at h1
  by_cases e1 : s = 1
  ·exact .inl e1
  ·by_cases e2 : s = -1
   ·exact .inr e2
   ·simp [e1, e2] at h1
 have hcl : (1 : Int) ≤ cl := hc
 unfold apart
 rw [Bool.or_eq_true]
 right
 rw [Bool.and_eq_true]
 refine ⟨decide_eq_true (show cl + 1 > 1 by omega), ?_⟩
 rcases hs with hs | hs
 ·rw [hs] at h2 h3
  have hrb : rb = true := by cases rb <;> simp_all
  subst hrb
  have hcb : cl > 1 → cb = false := fun h => by
   rw [decide_eq_true (show (ca, cl, cb).2.1 > 1 from h), Bool.true_and] at h2
   cases cb
   ·rfl
   ·simp at h2
  rw [hs]
  have e : stp (ca, cl + 1, (1 : Int) == -1) (prt (ra, rl, true) 1 (rl - 1)) = -1 := by
   unfold stp img at hs
   unfold stp prt img
   simp only [show ((1 : Int) == -1) = false from rfl, Bool.false_eq_true, if_false, if_true] at hs ⊢
   by_cases hl : cl > 1
   ·rw [hcb hl] at hs; simp only [Bool.false_eq_true, if_false] at hs; omega
   ·cases cb <;> simp only [Bool.false_eq_true, if_false, if_true] at hs <;> omega
  show (!((stp (ca, cl + 1, (1 : Int) == -1) (prt (ra, rl, true) 1 (rl - 1)) == -1) == ((1 : Int) == -1))) = true
  rw [e]; rfl
 ·rw [hs] at h2 h3
  have hrb : rb = false := by cases rb <;> simp_all
  subst hrb
  have hcb : cl > 1 → cb = true := fun h => by
   rw [decide_eq_true (show (ca, cl, cb).2.1 > 1 from h), Bool.true_and] at h2
   cases cb
   ·simp at h2
   ·rfl
  rw [hs]
  have e : stp (ca, cl + 1, (-1 : Int) == -1) (prt (ra, rl, false) 1 (rl - 1)) = 1 := by
   unfold stp img at hs
   unfold stp prt img
   simp only [show ((-1 : Int) == -1) = true from rfl, Bool.false_eq_true, if_false, if_true] at hs ⊢
   by_cases hl : cl > 1
   ·rw [hcb hl] at hs; simp only [if_true] at hs; omega
   ·cases cb <;> simp only [Bool.false_eq_true, if_false, if_true] at hs <;> omega
  show (!((stp (ca, cl + 1, (-1 : Int) == -1) (prt (ra, rl, false) 1 (rl - 1)) == -1) == ((-1 : Int) == -1))) = true
  rw [e]; rfl

theorem iso_part_s (k : Nat) (r : Rn) (x n : Int) (h1 : -4611686018427387904 ≤ r.1) (h2 : r.1 ≤ 4611686018427387903) (h3 : -4611686018427387904 ≤ x) (h4 : x ≤ 4611686018427387903) : f_u46 k r x n = some (prt r x n) := by
 unfold f_u46 prt
 rw [iso_image_s k r x h1 h2 h3 h4, iso_image_v k r x h1 h2 h3 h4]; rfl
theorem iso_part_v (k : Nat) (r : Rn) (x n : Int) (h1 : -4611686018427387904 ≤ r.1) (h2 : r.1 ≤ 4611686018427387903) (h3 : -4611686018427387904 ≤ x) (h4 : x ≤ 4611686018427387903) : v_u46 k r x n = prt r x n := by
 unfold v_u46; rw [iso_part_s k r x n h1 h2 h3 h4]; rfl
theorem last_idx (pre : List Rn) (c : Rn) (h : pre.length < 4611686018427387904) : (i64.wrap (((pre ++ [c]).length : Int) - 1)).toNat = pre.length := by
 rw [List.length_append, List.length_singleton, wrap_id (by omega) (by omega)]; omega
theorem last_get (pre : List Rn) (c d : Rn) : (pre ++ [c]).getD pre.length d = c := by simp
theorem last_set (pre : List Rn) (c d : Rn) : (pre ++ [c]).set pre.length d = pre ++ [d] := by simp

theorem iso_add_new (k : Nat) (pre : List Rn) (c r : Rn) (hl : pre.length ≤ 1000000000) (hr : ¬ r.2.1 < 1) (b1 : -9007199254740992 ≤ r.1 ∧ r.1 ≤ 9007199254740992) (hc : -9007199254740992 ≤ c.1 ∧ c.1 ≤ 9007199254740992 ∧ 1 ≤ c.2.1 ∧ c.2.1 ≤ 9007199254740992) (ha : apart c r = true) :
  f_u38 (k + 1) (pre ++ [c]) r = some (pre ++ [c] ++ [prt r 0 r.2.1]) := by
 have hi := last_idx pre c (by omega)
 have hlen : (pre ++ [c]).length = pre.length + 1 := by simp
 have hst : i64.wrap (r.fst - img c (c.snd.fst - 1)) = stp c r := by
  unfold stp
  refine wrap_id ?_ ?_ <;> unfold img <;> cases c.2.2 <;> simp only [Bool.false_eq_true, if_false, if_true] <;> omega
 unfold f_u38
 rw [decide_eq_false hr, cond_false, show (((pre ++ [c]).length : Int) == 0) = false by rw [hlen]; exact beqf (by omega), cond_false, hi, last_get]
 rw [wrap_id (i := c.snd.fst - 1) (by omega) (by omega), iso_image_s k c _ (by omega) (by omega) (by omega) (by omega), iso_image_v k c _ (by omega) (by omega) (by omega) (by omega), hst]
 rw [if_pos (by rw [hlen, wrap_id (by omega) (by omega)]; exact ⟨by omega, by omega⟩), Option.isSome_some, if_pos rfl]
 have ha' : ((stp c r != 1 && stp c r != -1) || decide (c.snd.fst > 1) && !((stp c r == -1) == c.snd.snd)) = true := ha
 rw [ha', cond_true, iso_part_s k r 0 _ (by omega) (by omega) (by omega) (by omega), iso_part_v k r 0 _ (by omega) (by omega) (by omega) (by omega), if_pos ⟨rfl, by rw [hlen, List.length_singleton]; omega⟩]

theorem iso_add_s (k : Nat) (hk : 4 ≤ k) (b : List Rn) (r : Rn) (hl : b.length ≤ 1000000000) (hr : Bnd r) (hb : ∀ c ∈ b, Bnd c ∧ 1 ≤ c.2.1) : f_u38 k b r = some (addS b r) := by
 obtain ⟨k, rfl⟩ : ∃ m, k = m + 1 := ⟨k - 1, by omega⟩
 obtain ⟨r1, r2, r3, r4⟩ := hr
 by_cases h0 : r.2.1 < 1
 ·rw [addS_zero _ _ h0]; unfold f_u38; rw [decide_eq_true h0, cond_true]
 rcases List.eq_nil_or_concat b with rfl | ⟨pre, c, rfl⟩
 ·rw [addS_nil _ h0]
  unfold f_u38
  rw [decide_eq_false h0, cond_false, show ((([] : List Rn).length : Int) == 0) = true from rfl, cond_true, iso_part_s k r 0 _ (by omega) (by omega) (by omega) (by omega), iso_part_v k r 0 _ (by omega) (by omega) (by omega) (by omega), if_pos ⟨rfl, by simp⟩]
  rfl
 rw [List.concat_eq_append] at *
 obtain ⟨⟨c1, c2, c3, c4⟩, c5⟩ := hb c (by simp)
 have hlen : (pre ++ [c]).length = pre.length + 1 := by simp
 rw [addS_last _ _ _ h0]
 cases ha : apart c r with
 | true =>
  rw [cond_true]
  exact iso_add_new k pre c r (by omega) h0 ⟨by omega, by omega⟩ ⟨by omega, by omega, by omega, by omega⟩ ha
 | false =>
 rw [cond_false]
 have hi := last_idx pre c (by omega)
 have hst : i64.wrap (r.fst - img c (c.snd.fst - 1)) = stp c r := by
  unfold stp
  refine wrap_id ?_ ?_ <;> unfold img <;> cases c.2.2 <;> simp only [Bool.false_eq_true, if_false, if_true] <;> omega
 have ha' : ((stp c r != 1 && stp c r != -1) || decide (c.snd.fst > 1) && !((stp c r == -1) == c.snd.snd)) = false := ha
 unfold f_u38
 rw [decide_eq_false h0, cond_false, show (((pre ++ [c]).length : Int) == 0) = false by rw [hlen]; exact beqf (by omega), cond_false, hi, last_get]
 rw [wrap_id (i := c.snd.fst - 1) (by omega) (by omega), iso_image_s k c _ (by omega) (by omega) (by omega) (by omega), iso_image_v k c _ (by omega) (by omega) (by omega) (by omega), hst]
 have hidx : (0 : Int) ≤ i64.wrap (((pre ++ [c]).length : Int) - 1) ∧ i64.wrap (((pre ++ [c]).length : Int) - 1) < ((pre ++ [c]).length : Int) := by
  rw [hlen, wrap_id (by omega) (by omega)]; exact ⟨by omega, by omega⟩
 rw [if_pos hidx, Option.isSome_some, if_pos rfl, ha', cond_false]
 rw [wrap_id (i := c.snd.fst + r.snd.fst) (by omega) (by omega), wrap_id (i := c.snd.fst + 1) (by omega) (by omega), wrap_id (i := r.snd.fst - r.snd.fst) (by omega) (by omega), wrap_id (i := r.snd.fst - 1) (by omega) (by omega), last_set, last_set]
 rw [iso_part_s k r r.snd.fst _ (by omega) (by omega) (by omega) (by omega), iso_part_v k r r.snd.fst _ (by omega) (by omega) (by omega) (by omega), iso_part_s k r 1 _ (by omega) (by omega) (by omega) (by omega), iso_part_v k r 1 _ (by omega) (by omega) (by omega) (by omega)]
 obtain ⟨k, rfl⟩ : ∃ m, k = m + 1 := ⟨k - 1, by omega⟩
 have z : ∀ (b : List Rn) (r : Rn), r.2.1 < 1 → f_u38 (k + 1) b r = some b := fun b r h => by
  unfold f_u38; rw [decide_eq_true h, cond_true]
 have w : ∀ (b b' : List Rn) (r : Rn), f_u38 (k + 1) b r = some b' → w_u38 (f_u38 (k + 1)) b r = b' := fun b b' r h => by
  unfold w_u38; rw [h]; rfl
 by_cases hone : r.2.1 > 1
 ·rw [decide_eq_true hone, Bool.true_and, Bool.true_and]
  cases hd : (r.snd.snd == (stp c r == -1)) with
  | true =>
   rw [cond_true, Bool.not_true, cond_false, if_pos hidx]
   have e := z (pre ++ [(c.fst, c.snd.fst + r.snd.fst, stp c r == -1)]) (prt r r.snd.fst (r.snd.fst - r.snd.fst)) (by show r.snd.fst - r.snd.fst < 1; omega)
   rw [w _ _ _ e, e, if_pos ⟨rfl, rfl⟩]
  | false =>
   rw [cond_false, Bool.not_false, cond_true, if_pos hidx]
   obtain ⟨p1, p2, p3⟩ := prt_bnd (r := r) ⟨r1, r2, r3, r4⟩ (x := 1) (n := r.2.1 - 1) (by omega) (by omega) (by omega) (by omega)
   have e := iso_add_new k pre (c.fst, c.snd.fst + 1, stp c r == -1) (prt r 1 (r.snd.fst - 1)) (by omega) (by rw [p3]; omega) ⟨by omega, by omega⟩ ⟨by show -9007199254740992 ≤ c.1; omega, by show c.1 ≤ 9007199254740992; omega, by show 1 ≤ c.2.1 + 1; omega, by show c.2.1 + 1 ≤ 9007199254740992; omega⟩ (apart_turn c5 ha hd)
   rw [p3, prt_zero] at e
   rw [w _ _ _ e, e, if_pos ⟨rfl, rfl⟩]
   simp
 ·have h1 : r.2.1 = 1 := by omega
  rw [decide_eq_false hone, Bool.false_and, Bool.false_and, cond_false, cond_false, if_pos hidx]
  have e := z (pre ++ [(c.fst, c.snd.fst + 1, stp c r == -1)]) (prt r 1 (r.snd.fst - 1)) (by show r.snd.fst - 1 < 1; omega)
  rw [w _ _ _ e, e, if_pos ⟨rfl, rfl⟩, h1]
theorem iso_add_v (k : Nat) (hk : 4 ≤ k) (b : List Rn) (r : Rn) (hl : b.length ≤ 1000000000) (hr : Bnd r) (hb : ∀ c ∈ b, Bnd c ∧ 1 ≤ c.2.1) : v_u38 k b r = addS b r := by
 unfold v_u38; rw [iso_add_s k hk b r hl hr hb]; rfl
end Go.AM
namespace Go.AM
open Go Go.Proofs Go.IntKind

end Go.AM
namespace Go.AM
open Go Go.IntKind

theorem good_iff {r : Rn} : good r ↔ 1 ≤ r.2.1 ∧ 0 ≤ lo r ∧ hi r < 17179869184 := by
 unfold good lo hi
 cases r.2.2
 ·simp only [Bool.false_eq_true, if_false]
  constructor
  ·rintro ⟨h1, h2, h3, h4, _, h6⟩
   have := h6 trivial
   omega
  ·rintro ⟨h1, h2, h3⟩
   refine ⟨by omega, by omega, by omega, by omega, fun h => h.elim, fun _ => by omega⟩
 ·simp only [if_true]
  constructor
  ·rintro ⟨h1, h2, h3, h4, h5, _⟩
   have := h5 trivial
   omega
  ·rintro ⟨h1, h2, h3⟩
   refine ⟨by omega, by omega, by omega, by omega, fun _ => by omega, fun h => by cases h⟩

theorem imgAt_append : ∀ (a b : List Rn) (x : Int), goods a → 0 ≤ x → imgAt (a ++ b) x = if x < lenS a then imgAt a x else imgAt b (x - lenS a)
 | [], b, x, _, h0 => by simp only [List.nil_append, lenS, if_neg (by omega : ¬ x < 0), Int.sub_zero]
 | r :: t, b, x, hg, h0 => by
  have hr := hg.1.1
  have ht := lenS_nonneg hg.2
  show (if x < r.2.1 then img r x else imgAt (t ++ b) (x - r.2.1)) = if x < r.2.1 + lenS t then (if x < r.2.1 then img r x else imgAt t (x - r.2.1)) else imgAt b (x - (r.2.1 + lenS t))
  by_cases h : x < r.2.1
  ·rw [if_pos h, if_pos (by omega), if_pos h]
  ·rw [if_neg h, imgAt_append t b _ hg.2 (by omega)]
   by_cases h2 : x - r.2.1 < lenS t
   ·rw [if_pos h2, if_pos (by omega), if_neg h]
   ·rw [if_neg h2, if_neg (by omega), Int.sub_sub]

theorem prt_img {r : Rn} {x n y : Int} (h0 : 0 ≤ y) (h1 : y < n) : img (prt r x n) y = img r (x + y) := by
 unfold prt img
 by_cases h : n > 1
 ·rw [decide_eq_true h, Bool.and_true]
  cases r.2.2 <;> simp only [Bool.false_eq_true, if_false, if_true] <;> omega
 ·have : y = 0 := by omega
  subst this
  cases r.2.2 && decide (n > 1) <;> simp
theorem prt_good {r : Rn} (h : good r) {x n : Int} (h0 : 0 ≤ x) (h1 : 1 ≤ n) (h2 : x + n ≤ r.2.1) : good (prt r x n) := by
 rw [good_iff] at h ⊢
 obtain ⟨g1, g2, g3⟩ := h
 have e1 := img_mem (r := r) (x := x) (by omega) (by omega)
 have e2 := img_mem (r := r) (x := x + n - 1) (by omega) (by omega)
 refine ⟨h1, ?_, ?_⟩
 ·unfold prt lo
  by_cases h : n > 1
  ·rw [decide_eq_true h, Bool.and_true]
   unfold img at e1 e2 ⊢
   cases hb : r.2.2 <;> rw [hb] at e1 e2 <;> simp only [Bool.false_eq_true, if_false, if_true] at e1 e2 ⊢ <;> omega
  ·rw [decide_eq_false h, Bool.and_false]
   simp only [Bool.false_eq_true, if_false]; omega
 ·unfold prt hi
  by_cases h : n > 1
  ·rw [decide_eq_true h, Bool.and_true]
   unfold img at e1 e2 ⊢
   cases hb : r.2.2 <;> rw [hb] at e1 e2 <;> simp only [Bool.false_eq_true, if_false, if_true] at e1 e2 ⊢ <;> omega
  ·rw [decide_eq_false h, Bool.and_false]
   simp only [Bool.false_eq_true, if_false]; omega

theorem stp_of {c r : Rn} (h : apart c r = false) : stp c r = 1 ∨ stp c r = -1 := by
 unfold apart at h
 simp only [Bool.or_eq_false_iff] at h
 generalize stp c r = s at h
 by_cases e1 : s = 1
 ·exact .inl e1
 ·by_cases e2 : s = -1
  ·exact .inr e2
  ·have := h.1; simp [e1, e2] at this
theorem back_of {c r : Rn} (h : apart c r = false) (hc : c.2.1 > 1) : c.2.2 = (stp c r == -1) := by
 unfold apart at h
 simp only [Bool.or_eq_false_iff] at h
 have h2 := h.2
 rw [decide_eq_true hc, Bool.true_and] at h2
 cases e : c.2.2 <;> cases e2 : (stp c r == -1) <;> simp_all

theorem grow_img {c r : Rn} (hc : 1 ≤ c.2.1) (h : apart c r = false) {n : Int} (hn : n > 1 → r.2.2 = (stp c r == -1)) {x : Int} (h0 : 0 ≤ x) (h1 : x < c.2.1 + n) :
  img (c.1, c.2.1 + n, stp c r == -1) x = if x < c.2.1 then img c x else img r (x - c.2.1) := by
 have hb := back_of (c := c) (r := r) h
 have hstp : stp c r = r.1 - img c (c.2.1 - 1) := rfl
 rcases stp_of h with hs | hs
 ·rw [hs] at hb hn hstp ⊢
  have hf : ((1 : Int) == -1) = false := rfl
  rw [hf] at hb hn ⊢
  unfold img at hstp ⊢
  simp only [Bool.false_eq_true, if_false]
  by_cases hx : x < c.2.1
  ·rw [if_pos hx]
   by_cases hc1 : c.2.1 > 1
   ·rw [hb hc1]; simp
   ·have : x = 0 := by omega
    subst this; cases c.2.2 <;> simp
  ·rw [if_neg hx]
   have e1 : r.1 = c.1 + c.2.1 := by
    by_cases hc1 : c.2.1 > 1
    ·rw [hb hc1] at hstp; simp only [Bool.false_eq_true, if_false] at hstp; omega
    ·cases e : c.2.2 <;> rw [e] at hstp <;> simp only [Bool.false_eq_true, if_false, if_true] at hstp <;> omega
   by_cases hn1 : n > 1
   ·rw [hn hn1]; simp only [Bool.false_eq_true, if_false]; omega
   ·cases r.2.2 <;> simp only [Bool.false_eq_true, if_false, if_true] <;> omega
 ·rw [hs] at hb hn hstp ⊢
  have hf : ((-1 : Int) == -1) = true := rfl
  rw [hf] at hb hn ⊢
  unfold img at hstp ⊢
  simp only [if_true]
  by_cases hx : x < c.2.1
  ·rw [if_pos hx]
   by_cases hc1 : c.2.1 > 1
   ·rw [hb hc1]; simp
   ·have : x = 0 := by omega
    subst this; cases c.2.2 <;> simp
  ·rw [if_neg hx]
   have e1 : r.1 = c.1 - c.2.1 := by
    by_cases hc1 : c.2.1 > 1
    ·rw [hb hc1] at hstp; simp only [if_true] at hstp; omega
    ·cases e : c.2.2 <;> rw [e] at hstp <;> simp only [Bool.false_eq_true, if_false, if_true] at hstp <;> omega
   by_cases hn1 : n > 1
   ·rw [hn hn1]; simp only [if_true]; omega
   ·cases r.2.2 <;> simp only [Bool.false_eq_true, if_false, if_true] <;> omega

theorem good_of_ends {r : Rn} (h1 : 1 ≤ r.2.1) (a : 0 ≤ img r 0 ∧ img r 0 < 17179869184) (b : 0 ≤ img r (r.2.1 - 1) ∧ img r (r.2.1 - 1) < 17179869184) : good r := by
 rw [good_iff]
 unfold img at a b
 unfold lo hi
 cases hb : r.2.2 <;> rw [hb] at a b <;> simp only [Bool.false_eq_true, if_false, if_true] at a b ⊢ <;> omega
theorem good_img {r : Rn} (h : good r) {x : Int} (h0 : 0 ≤ x) (h1 : x < r.2.1) : 0 ≤ img r x ∧ img r x < 17179869184 := by
 have := img_mem (r := r) h0 h1
 have h := good_iff.1 h
 omega

theorem grow_good {c r : Rn} (hc : good c) (hr : good r) (h : apart c r = false) {n : Int} (hn0 : 1 ≤ n) (hn1 : n ≤ r.2.1) (hn : n > 1 → r.2.2 = (stp c r == -1)) : good (c.1, c.2.1 + n, stp c r == -1) := by
 have hc1 := hc.1
 refine good_of_ends (by show 1 ≤ c.2.1 + n; omega) ?_ ?_
 ·rw [grow_img hc1 h hn (by omega) (by omega), if_pos (by omega)]
  exact good_img hc (by omega) (by omega)
 ·show 0 ≤ img (c.1, c.2.1 + n, stp c r == -1) (c.2.1 + n - 1) ∧ img (c.1, c.2.1 + n, stp c r == -1) (c.2.1 + n - 1) < 17179869184
  rw [grow_img hc1 h hn (by omega) (by omega), if_neg (by omega)]
  exact good_img hr (by omega) (by omega)

theorem addS_spec (b : List Rn) (r : Rn) (hb : goods b) (hr : good r) : goods (addS b r) ∧ lenS (addS b r) = lenS b + r.2.1 ∧ ∀ x, 0 ≤ x → x < lenS b + r.2.1 → imgAt (addS b r) x = imgAt (b ++ [r]) x := by
 have hr1 := hr.1
 have last1 : ∀ (x : Int), x < r.2.1 → imgAt [r] x = img r x := fun x h => by simp only [imgAt, if_pos h]
 have p0 : ∀ x, 0 ≤ x → x < r.2.1 → img (prt r 0 r.2.1) x = img r x := fun x h0 h1 => by rw [prt_img h0 h1, Int.zero_add]
 have hp : good (prt r 0 r.2.1) := prt_good hr (by omega) hr1 (by omega)
 have new : ∀ b : List Rn, goods b → goods (b ++ [prt r 0 r.2.1]) ∧ lenS (b ++ [prt r 0 r.2.1]) = lenS b + r.2.1 ∧ ∀ x, 0 ≤ x → x < lenS b + r.2.1 → imgAt (b ++ [prt r 0 r.2.1]) x = imgAt (b ++ [r]) x := fun b hb => by
  refine ⟨(goods_append _ _).2 ⟨hb, hp, trivial⟩, ?_, fun x h0 h1 => ?_⟩
  ·rw [lenS_append]; simp only [lenS]; show lenS b + (r.2.1 + 0) = _; omega
  ·rw [imgAt_append _ _ _ hb h0, imgAt_append _ _ _ hb h0]
   by_cases h : x < lenS b
   ·rw [if_pos h, if_pos h]
   ·rw [if_neg h, if_neg h, last1 _ (by omega)]
    have hlt : x - lenS b < (prt r 0 r.2.1).2.1 := by show x - lenS b < r.2.1; omega
    simp only [imgAt, if_pos hlt]
    exact p0 _ (by omega) (by omega)
 have h0 : ¬ r.2.1 < 1 := by omega
 rcases List.eq_nil_or_concat b with rfl | ⟨pre, c, rfl⟩
 ·unfold addS
  rw [if_neg h0]
  exact new [] trivial
 rw [List.concat_eq_append] at *
 obtain ⟨hpre, hc, _⟩ := (goods_append _ _).1 hb
 have hc1 := hc.1
 have hlc : lenS (pre ++ [c]) = lenS pre + c.2.1 := by rw [lenS_append]; simp only [lenS]; omega
 have e : addS (pre ++ [c]) r = (bif apart c r then pre ++ [c] ++ [prt r 0 r.2.1]
   else bif decide (r.2.1 > 1) && !(r.2.2 == (stp c r == -1)) then pre ++ [(c.1, c.2.1 + 1, stp c r == -1), prt r 1 (r.2.1 - 1)]
   else pre ++ [(c.1, c.2.1 + r.2.1, stp c r == -1)]) := by
  unfold addS; rw [if_neg h0]; simp
 rw [e]
 cases ha : apart c r with
 | true => rw [cond_true]; exact new _ hb
 | false =>
 rw [cond_false]
 have old : ∀ x, 0 ≤ x → x < lenS (pre ++ [c]) + r.2.1 → imgAt (pre ++ [c] ++ [r]) x = if x < lenS pre then imgAt pre x else if x - lenS pre < c.2.1 then img c (x - lenS pre) else img r (x - lenS pre - c.2.1) := fun x hx0 hx1 => by
  rw [List.append_assoc, imgAt_append _ _ _ hpre hx0]
  by_cases h : x < lenS pre
  ·rw [if_pos h, if_pos h]
  ·rw [if_neg h, if_neg h]
   simp only [List.cons_append, List.nil_append, imgAt]
   by_cases h2 : x - lenS pre < c.2.1
   ·rw [if_pos h2, if_pos h2]
   ·rw [if_neg h2, if_neg h2, if_pos (by omega)]
 cases hd : (decide (r.2.1 > 1) && !(r.2.2 == (stp c r == -1))) with
 | true =>
  rw [cond_true]
  simp only [Bool.and_eq_true, decide_eq_true_eq] at hd
  have hn : (1 : Int) > 1 → r.2.2 = (stp c r == -1) := fun h => by omega
  have hg := grow_good hc hr ha (n := 1) (by omega) (by omega) hn
  have hq : good (prt r 1 (r.2.1 - 1)) := prt_good hr (by omega) (by omega) (by omega)
  refine ⟨(goods_append _ _).2 ⟨hpre, hg, hq, trivial⟩, ?_, fun x hx0 hx1 => ?_⟩
  ·rw [lenS_append, hlc]
   simp only [lenS]
   show lenS pre + (c.2.1 + 1 + (r.2.1 - 1 + 0)) = _
   omega
  ·rw [old x hx0 hx1, imgAt_append _ _ _ hpre hx0]
   by_cases h : x < lenS pre
   ·rw [if_pos h, if_pos h]
   ·rw [if_neg h, if_neg h]
    simp only [imgAt]
    show (if x - lenS pre < c.2.1 + 1 then _ else if x - lenS pre - (c.2.1 + 1) < r.2.1 - 1 then _ else _) = _
    by_cases h2 : x - lenS pre < c.2.1 + 1
    ·rw [if_pos h2, grow_img hc1 ha hn (by omega) h2]
    ·rw [if_neg h2, if_pos (by omega), if_neg (by omega), prt_img (by omega) (by omega)]
     congr 1; omega
 | false =>
  rw [cond_false]
  have hn : r.2.1 > 1 → r.2.2 = (stp c r == -1) := fun h => by
   rw [decide_eq_true h, Bool.true_and] at hd
   cases e : r.2.2 <;> cases e2 : (stp c r == -1) <;> simp_all
  have hg := grow_good hc hr ha (n := r.2.1) (by omega) (by omega) hn
  refine ⟨(goods_append _ _).2 ⟨hpre, hg, trivial⟩, ?_, fun x hx0 hx1 => ?_⟩
  ·rw [lenS_append, hlc]
   simp only [lenS]
   show lenS pre + (c.2.1 + r.2.1 + 0) = _
   omega
  ·rw [old x hx0 hx1, imgAt_append _ _ _ hpre hx0]
   by_cases h : x < lenS pre
   ·rw [if_pos h, if_pos h]
   ·rw [if_neg h, if_neg h]
    simp only [imgAt]
    show (if x - lenS pre < c.2.1 + r.2.1 then _ else _) = _
    rw [if_pos (by omega), grow_img hc1 ha hn (by omega) (by omega)]

theorem adds_spec : ∀ (l b : List Rn), goods b → goods l → goods (adds b l) ∧ lenS (adds b l) = lenS b + lenS l ∧ ∀ x, 0 ≤ x → x < lenS b + lenS l → imgAt (adds b l) x = imgAt (b ++ l) x
 | [], b, hb, _ => by simp [adds, lenS, hb]
 | r :: t, b, hb, ⟨hr, ht⟩ => by
  obtain ⟨a1, a2, a3⟩ := addS_spec b r hb hr
  obtain ⟨b1, b2, b3⟩ := adds_spec t (addS b r) a1 ht
  have hr1 := hr.1
  have hb0 := lenS_nonneg hb
  have ht0 := lenS_nonneg ht
  refine ⟨b1, by show lenS (adds (addS b r) t) = _; rw [b2, a2]; simp only [lenS]; omega, fun x h0 h1 => ?_⟩
  show imgAt (adds (addS b r) t) x = _
  simp only [lenS] at h1
  rw [b3 x h0 (by rw [a2]; omega), imgAt_append _ _ _ a1 h0, a2, show b ++ r :: t = b ++ [r] ++ t by simp, imgAt_append (b ++ [r]) _ _ ((goods_append _ _).2 ⟨hb, hr, trivial⟩) h0, lenS_append, show lenS [r] = r.2.1 by simp [lenS]]
  by_cases h : x < lenS b + r.2.1
  ·rw [if_pos h, if_pos h, a3 x h0 h]
  ·rw [if_neg h, if_neg h]

theorem pieces_spec : ∀ (m : List Rn) (a b : Int), goods m → a < b → b ≤ lenS m → 0 ≤ b →
  goods (pieces m a b) ∧ lenS (pieces m a b) = b - max a 0 ∧ ∀ x, 0 ≤ x → x < b - max a 0 → imgAt (pieces m a b) x = imgAt m (max a 0 + x)
 | [], a, b, _, h1, h2, h3 => by
  simp only [lenS] at h2
  refine ⟨trivial, by simp only [pieces, lenS]; omega, fun x h0 hx => by omega⟩
 | r :: t, a, b, ⟨hr, ht⟩, h1, h2, h3 => by
  have hr1 := hr.1
  have ht0 := lenS_nonneg ht
  simp only [lenS] at h2
  by_cases hb : b - r.2.1 ≤ 0
  ·-- the end lies within the first run
   have hnil : pieces t (a - r.2.1) (b - r.2.1) = [] := by
    have : ∀ (t : List Rn) (a b : Int), b ≤ 0 → goods t → pieces t a b = [] := fun t => by
     induction t with
     | nil => intros; rfl
     | cons u v ih =>
      intro a b hb hg
      have := hg.1.1
      simp only [pieces]
      rw [if_neg (by omega), ih _ _ (by omega) hg.2]; rfl
    exact this t _ _ hb ht
   simp only [pieces, hnil, List.append_nil]
   by_cases hc : max a 0 < min b r.2.1
   ·rw [if_pos hc]
    refine ⟨⟨prt_good hr (by omega) (by omega) (by omega), trivial⟩, ?_, fun x h0 hx => ?_⟩
    ·simp only [lenS]; show min b r.2.1 - max a 0 + 0 = _; omega
    ·have hlt : x < min b r.2.1 - max a 0 := by omega
     show (if x < min b r.2.1 - max a 0 then img (prt r (max a 0) (min b r.2.1 - max a 0)) x else 0) = if max a 0 + x < r.2.1 then img r (max a 0 + x) else imgAt t (max a 0 + x - r.2.1)
     rw [if_pos hlt, prt_img h0 hlt, if_pos (by omega)]
   ·rw [if_neg hc]
    refine ⟨trivial, by simp only [lenS]; omega, fun x h0 hx => by omega⟩
  ·obtain ⟨i1, i2, i3⟩ := pieces_spec t (a - r.2.1) (b - r.2.1) ht (by omega) (by omega) (by omega)
   simp only [pieces]
   by_cases hc : max a 0 < min b r.2.1
   ·rw [if_pos hc]
    refine ⟨⟨prt_good hr (by omega) (by omega) (by omega), i1⟩, ?_, fun x h0 hx => ?_⟩
    ·simp only [List.cons_append, List.nil_append, lenS, i2]; show min b r.2.1 - max a 0 + _ = _; omega
    ·simp only [List.cons_append, List.nil_append, imgAt]
     show (if x < min b r.2.1 - max a 0 then _ else imgAt _ (x - (min b r.2.1 - max a 0))) = _
     by_cases hx2 : x < min b r.2.1 - max a 0
     ·rw [if_pos hx2, prt_img h0 hx2, if_pos (by omega)]
     ·rw [if_neg hx2, i3 _ (by omega) (by omega), if_neg (by omega)]
      congr 1; omega
   ·rw [if_neg hc, List.nil_append]
    refine ⟨i1, by rw [i2]; omega, fun x h0 hx => ?_⟩
    rw [i3 x h0 (by omega)]
    simp only [imgAt]
    rw [if_neg (by omega)]
    congr 1; omega

theorem rvs1_good {p : Rn} (h : good p) : good (rvs1 p) ∧ (rvs1 p).2.1 = p.2.1 ∧ ∀ x, 0 ≤ x → x < p.2.1 → img (rvs1 p) x = img p (p.2.1 - 1 - x) := by
 have h1 := h.1
 have hi : ∀ x, 0 ≤ x → x < p.2.1 → img (rvs1 p) x = img p (p.2.1 - 1 - x) := fun x h0 hx => by
  unfold rvs1 img
  by_cases hl : p.2.1 > 1
  ·rw [decide_eq_true hl, Bool.and_true]
   cases p.2.2 <;> simp only [Bool.not_false, Bool.not_true, Bool.false_eq_true, if_false, if_true] <;> omega
  ·have : x = 0 := by omega
   subst this
   rw [decide_eq_false hl, Bool.and_false]
   simp
 refine ⟨good_of_ends h1 ?_ ?_, rfl, hi⟩
 ·rw [hi 0 (by omega) (by omega)]; exact good_img h (by omega) (by omega)
 ·show 0 ≤ img (rvs1 p) (p.2.1 - 1) ∧ img (rvs1 p) (p.2.1 - 1) < 17179869184
  rw [hi _ (by omega) (by omega)]; exact good_img h (by omega) (by omega)

theorem revs_spec : ∀ (l : List Rn), goods l → goods (l.reverse.map rvs1) ∧ lenS (l.reverse.map rvs1) = lenS l ∧ ∀ x, 0 ≤ x → x < lenS l → imgAt (l.reverse.map rvs1) x = imgAt l (lenS l - 1 - x)
 | [], _ => ⟨trivial, rfl, fun x _ h => by simp only [lenS] at h; omega⟩
 | r :: t, ⟨hr, ht⟩ => by
  obtain ⟨i1, i2, i3⟩ := revs_spec t ht
  obtain ⟨r1, r2, r3⟩ := rvs1_good hr
  have hr1 := hr.1
  have ht0 := lenS_nonneg ht
  have e : (r :: t).reverse.map rvs1 = t.reverse.map rvs1 ++ [rvs1 r] := by simp
  rw [e]
  refine ⟨(goods_append _ _).2 ⟨i1, r1, trivial⟩, ?_, fun x h0 hx => ?_⟩
  ·rw [lenS_append, i2]; simp only [lenS, r2]; omega
  ·simp only [lenS] at hx ⊢
   rw [imgAt_append _ _ _ i1 h0, i2]
   simp only [imgAt, r2]
   by_cases h : x < lenS t
   ·rw [if_pos h, i3 x h0 h, if_neg (by omega)]
    congr 1; omega
   ·rw [if_neg h, if_pos (by omega), if_pos (by omega), r3 _ (by omega) (by omega)]
    congr 1; omega

theorem steps_spec (outer : List Rn) (r : Rn) (ho : goods outer) (hr : good r) (hh : hi r < lenS outer) :
  goods (steps outer r) ∧ lenS (steps outer r) = r.2.1 ∧ ∀ x, 0 ≤ x → x < r.2.1 → imgAt (steps outer r) x = imgAt outer (img r x) := by
 obtain ⟨l1, l2, l3, l4⟩ := hr.lohi
 have hr1 := hr.1
 unfold steps
 unfold lo at l1 l2 l4
 unfold hi at l2 l3 l4 hh
 cases hb : r.2.2
 ·rw [hb] at l1 l2 l3 l4 hh
  simp only [Bool.false_eq_true, if_false] at l1 l2 l3 l4 hh ⊢
  obtain ⟨p1, p2, p3⟩ := pieces_spec outer r.1 (r.1 + r.2.1) ho (by omega) (by omega) (by omega)
  refine ⟨p1, by rw [p2]; omega, fun x h0 hx => ?_⟩
  rw [p3 x h0 (by omega)]
  unfold img
  rw [hb]
  simp only [Bool.false_eq_true, if_false]
  congr 1; omega
 ·rw [hb] at l1 l2 l3 l4 hh
  simp only [if_true] at l1 l2 l3 l4 hh ⊢
  obtain ⟨p1, p2, p3⟩ := pieces_spec outer (r.1 - r.2.1 + 1) (r.1 + 1) ho (by omega) (by omega) (by omega)
  obtain ⟨q1, q2, q3⟩ := revs_spec _ p1
  refine ⟨q1, by rw [q2, p2]; omega, fun x h0 hx => ?_⟩
  rw [q3 x h0 (by omega), p3 _ (by omega) (by omega), p2]
  unfold img
  rw [hb]
  simp only [if_true]
  congr 1; omega

end Go.AM
namespace Go.AM
open Go Go.Proofs Go.IntKind

theorem goods.bnds {b : List Rn} (h : goods b) : ∀ c ∈ b, Bnd c ∧ 1 ≤ c.2.1 := fun c hc => ⟨(h.mem c hc).bnd, (h.mem c hc).1⟩
theorem addS_len (b : List Rn) (r : Rn) : (addS b r).length ≤ b.length + 1 := by
 by_cases h0 : r.2.1 < 1
 ·rw [addS_zero _ _ h0]; omega
 rcases List.eq_nil_or_concat b with rfl | ⟨pre, c, rfl⟩
 ·rw [addS_nil _ h0]; simp
 rw [List.concat_eq_append, addS_last _ _ _ h0]
 cases apart c r
 ·rw [cond_false]
  cases decide (r.2.1 > 1) && !(r.2.2 == (stp c r == -1))
  ·rw [cond_false]; simp
  ·rw [cond_true]; simp
 ·rw [cond_true]; simp
theorem adds_len : ∀ (l b : List Rn), (adds b l).length ≤ b.length + l.length
 | [], b => by simp [adds]
 | r :: t, b => by
  have h1 := addS_len b r
  have h2 := adds_len t (addS b r)
  have : adds b (r :: t) = adds (addS b r) t := rfl
  rw [this]; simp only [List.length_cons]; omega
theorem pieces_len : ∀ (m : List Rn) (a b : Int), (pieces m a b).length ≤ m.length
 | [], _, _ => Nat.le_refl _
 | r :: t, a, b => by
  have := pieces_len t (a - r.2.1) (b - r.2.1)
  simp only [pieces, List.length_append, List.length_cons]
  split <;> simp <;> omega
theorem adds_append (b l m : List Rn) : adds b (l ++ m) = adds (adds b l) m := by unfold adds; rw [List.foldl_append]

theorem piece_eq (r : Rn) (f t a : Int) : (if a > f then a else f) - a = max (f - a) 0 ∧ (if a + r.2.1 < t then a + r.2.1 else t) - (if a > f then a else f) = min (t - a) r.2.1 - max (f - a) 0 ∧ ((if a > f then a else f) < (if a + r.2.1 < t then a + r.2.1 else t) ↔ max (f - a) 0 < min (t - a) r.2.1) := by
 refine ⟨?_, ?_, ?_⟩ <;> split <;> (try split) <;> omega

structure EachOk (m : List Rn) (f t : Int) : Prop where
 goods : goods m
 len : m.length ≤ 300
 f0 : -1125899906842624 ≤ f ∧ f ≤ 1125899906842624
 t0 : -1125899906842624 ≤ t ∧ t ≤ 1125899906842624

theorem iso_each_add_l (k : Nat) (hk : 4 ≤ k) (m0 : List Rn) (f0 t0 : Int) (b0 : List Rn) (m : List Rn) (f t : Int) (ok : EachOk m f t) : ∀ (j i : Nat) (a : Int) (b : List Rn), i ≤ m.length → m.length - i < j → 0 ≤ a → a ≤ (i : Int) * 17179869184 → goods b → b.length ≤ 100000000 + i →
  f_u40_2 k m0 f0 t0 b0 j f t a m (m.length : Int) (i : Int) b = some (adds b (pieces (m.drop i) (f - a) (t - a))) := by
 obtain ⟨hg, hm, ⟨f1, f2⟩, t1, t2⟩ := ok
 intro j
 induction j with
 | zero => intros; omega
 | succ j ih =>
  intro i a b hi hj h0 ha hb hbl
  rw [f_u40_2]
  by_cases h : i < m.length
  ·have hgr : good (m.getD i T0.dflt) := hg.mem _ (by simp [h])
   rw [decide_eq_true (by omega : (i : Int) < (m.length : Int)), cond_true, if_pos ⟨by omega, by omega⟩, drop_cons' m i T0.dflt h, Int.toNat_natCast]
   generalize m.getD i T0.dflt = r at hgr
   have hgr' := hgr
   obtain ⟨g1, g2, g3, g4, _⟩ := hgr
   obtain ⟨e1, e2, e3⟩ := piece_eq r f t a
   have m1 : -9223372036854775808 ≤ (if a > f then a else f) - a := by split <;> omega
   have m2 : (if a > f then a else f) - a < 9223372036854775808 := by split <;> omega
   have m3 : -9223372036854775808 ≤ (if a + r.snd.fst < t then a + r.snd.fst else t) - (if a > f then a else f) := by split <;> split <;> omega
   have m4 : (if a + r.snd.fst < t then a + r.snd.fst else t) - (if a > f then a else f) < 9223372036854775808 := by split <;> split <;> omega
   rw [wrap_id (i := a + r.snd.fst) (by omega) (by omega), wrap_id m1 m2, wrap_id m3 m4, wrapS i (by omega), e1, e2]
   have hrec : f - a - r.2.1 = f - (a + r.snd.fst) := by omega
   have hrec2 : t - a - r.2.1 = t - (a + r.snd.fst) := by omega
   by_cases hc : max (f - a) 0 < min (t - a) r.2.1
   ·have hp := prt_good hgr' (x := max (f - a) 0) (n := min (t - a) r.2.1 - max (f - a) 0) (by omega) (by omega) (by omega)
    rw [decide_eq_true (e3.2 hc), cond_true, iso_part_s k r _ _ (by omega) (by omega) (by omega) (by omega), iso_part_v k r _ _ (by omega) (by omega) (by omega) (by omega)]
    rw [iso_add_s k hk b _ (by omega) hp.bnd hb.bnds, iso_add_v k hk b _ (by omega) hp.bnd hb.bnds, if_pos ⟨rfl, rfl⟩]
    rw [ih (i + 1) _ _ (by omega) (by omega) (by omega) (by omega) (addS_spec b _ hb hp).1 (by have := addS_len b (prt r (max (f - a) 0) (min (t - a) r.snd.fst - max (f - a) 0)); omega)]
    rw [pieces, if_pos hc, adds_append, hrec, hrec2]
    rfl
   ·rw [decide_eq_false (fun x => hc (e3.1 x)), cond_false, ih (i + 1) _ _ (by omega) (by omega) (by omega) (by omega) hb (by omega), pieces, if_neg hc, List.nil_append, hrec, hrec2]
  ·rw [decide_eq_false (by omega : ¬ (i : Int) < (m.length : Int)), cond_false, drop_all m i (by omega)]
   rfl
theorem iso_each_add_s (k : Nat) (hk : 304 ≤ k) (m : List Rn) (f t : Int) (ok : EachOk m f t) (b : List Rn) (hb : goods b) (hbl : b.length ≤ 100000000) : f_u40 k m f t b = some (adds b (pieces m f t)) := by
 unfold f_u40
 have := iso_each_add_l k (by omega) m f t b m f t ok k 0 0 b (by omega) (by have := ok.len; omega) (by omega) (by omega) hb (by omega)
 rw [Int.sub_zero, Int.sub_zero] at this
 exact this
theorem iso_each_add_v (k : Nat) (hk : 304 ≤ k) (m : List Rn) (f t : Int) (ok : EachOk m f t) (b : List Rn) (hb : goods b) (hbl : b.length ≤ 100000000) : v_u40 k m f t b = adds b (pieces m f t) := by
 unfold v_u40; rw [iso_each_add_s k hk m f t ok b hb hbl]; rfl

theorem iso_each_piece_l (k : Nat) (m0 : List Rn) (f0 t0 : Int) (b0 : List Rn) (m : List Rn) (f t : Int) (ok : EachOk m f t) : ∀ (j i : Nat) (a : Int) (b : List Rn), i ≤ m.length → m.length - i < j → 0 ≤ a → a ≤ (i : Int) * 17179869184 → b.length ≤ 100000000 + i →
  f_u42_2 k m0 f0 t0 b0 j f t a m (m.length : Int) (i : Int) b = some (b ++ pieces (m.drop i) (f - a) (t - a)) := by
 obtain ⟨hg, hm, ⟨f1, f2⟩, t1, t2⟩ := ok
 intro j
 induction j with
 | zero => intros; omega
 | succ j ih =>
  intro i a b hi hj h0 ha hbl
  rw [f_u42_2]
  by_cases h : i < m.length
  ·have hgr : good (m.getD i T0.dflt) := hg.mem _ (by simp [h])
   rw [decide_eq_true (by omega : (i : Int) < (m.length : Int)), cond_true, if_pos ⟨by omega, by omega⟩, drop_cons' m i T0.dflt h, Int.toNat_natCast]
   generalize m.getD i T0.dflt = r at hgr
   obtain ⟨g1, g2, g3, g4, _⟩ := hgr
   obtain ⟨e1, e2, e3⟩ := piece_eq r f t a
   have m1 : -9223372036854775808 ≤ (if a > f then a else f) - a := by split <;> omega
   have m2 : (if a > f then a else f) - a < 9223372036854775808 := by split <;> omega
   have m3 : -9223372036854775808 ≤ (if a + r.snd.fst < t then a + r.snd.fst else t) - (if a > f then a else f) := by split <;> split <;> omega
   have m4 : (if a + r.snd.fst < t then a + r.snd.fst else t) - (if a > f then a else f) < 9223372036854775808 := by split <;> split <;> omega
   rw [wrap_id (i := a + r.snd.fst) (by omega) (by omega), wrap_id m1 m2, wrap_id m3 m4, wrapS i (by omega), e1, e2]
   have hrec : f - a - r.2.1 = f - (a + r.snd.fst) := by omega
   have hrec2 : t - a - r.2.1 = t - (a + r.snd.fst) := by omega
   by_cases hc : max (f - a) 0 < min (t - a) r.2.1
   ·rw [decide_eq_true (e3.2 hc), cond_true, iso_part_s k r _ _ (by omega) (by omega) (by omega) (by omega), iso_part_v k r _ _ (by omega) (by omega) (by omega) (by omega)]
    have ec : ∀ p : Rn, f_u34 k p b = some (b ++ [p]) := fun p => by
     unfold f_u34
     rw [if_pos (by rw [List.length_singleton]; omega)]
    have ev : ∀ p : Rn, v_u34 k p b = b ++ [p] := fun p => by unfold v_u34; rw [ec]; rfl
    rw [ec, ev, if_pos ⟨rfl, rfl⟩, ih (i + 1) _ _ (by omega) (by omega) (by omega) (by omega) (by rw [List.length_append, List.length_singleton]; omega), pieces, if_pos hc, hrec, hrec2]
    simp
   ·rw [decide_eq_false (fun x => hc (e3.1 x)), cond_false, ih (i + 1) _ _ (by omega) (by omega) (by omega) (by omega) (by omega), pieces, if_neg hc, List.nil_append, hrec, hrec2]
  ·rw [decide_eq_false (by omega : ¬ (i : Int) < (m.length : Int)), cond_false, drop_all m i (by omega)]
   simp [pieces]
theorem iso_each_piece_s (k : Nat) (hk : 304 ≤ k) (m : List Rn) (f t : Int) (ok : EachOk m f t) : f_u42 k m f t [] = some (pieces m f t) := by
 unfold f_u42
 have := iso_each_piece_l k m f t [] m f t ok k 0 0 [] (by omega) (by have := ok.len; omega) (by omega) (by omega) (by simp)
 rw [Int.sub_zero, Int.sub_zero, List.nil_append] at this
 exact this
theorem iso_each_piece_v (k : Nat) (hk : 304 ≤ k) (m : List Rn) (f t : Int) (ok : EachOk m f t) : v_u42 k m f t [] = pieces m f t := by
 unfold v_u42; rw [iso_each_piece_s k hk m f t ok]; rfl

theorem iso_reversed_l (k : Nat) (hk : 4 ≤ k) (m0 b0 : List Rn) (m : List Rn) (hg : goods m) (hm : m.length ≤ 300) : ∀ (j i : Nat) (b : List Rn), i ≤ m.length → i < j → goods b → b.length ≤ 100000000 + (m.length - i) →
  f_u47_1 k m0 b0 j m ((i : Int) - 1) b = some (adds b ((m.take i).reverse.map rvs1)) := by
 intro j
 induction j with
 | zero => intros; omega
 | succ j ih =>
  intro i b hi hj hb hbl
  rw [f_u47_1]
  cases i with
  | zero =>
   rw [decide_eq_false (by omega), cond_false]
   rfl
  | succ i =>
   have hlt : i < m.length := by omega
   have hgr : good (m.getD i T0.dflt) := hg.mem _ (by simp [hlt])
   rw [show ((i + 1 : Nat) : Int) - 1 = (i : Int) by omega, decide_eq_true (by omega), cond_true, if_pos ⟨by omega, by omega⟩, Int.toNat_natCast, take_snoc m i T0.dflt hlt]
   generalize m.getD i T0.dflt = r at hgr
   obtain ⟨q1, _, _⟩ := rvs1_good hgr
   obtain ⟨g1, g2, g3, g4, _⟩ := hgr
   have er : (img r (r.snd.fst - 1), r.snd.fst, !r.snd.snd && decide (r.snd.fst > 1)) = rvs1 r := rfl
   rw [wrap_id (i := r.snd.fst - 1) (by omega) (by omega), wrap_id (i := (i : Int) - 1) (by omega) (by omega), iso_image_s k r _ (by omega) (by omega) (by omega) (by omega), iso_image_v k r _ (by omega) (by omega) (by omega) (by omega), er]
   rw [iso_add_s k hk b _ (by omega) q1.bnd hb.bnds, iso_add_v k hk b _ (by omega) q1.bnd hb.bnds, if_pos ⟨rfl, rfl⟩]
   rw [ih i _ (by omega) (by omega) (addS_spec b _ hb q1).1 (by have := addS_len b (rvs1 r); omega)]
   simp only [List.reverse_append, List.reverse_cons, List.reverse_nil, List.nil_append, List.cons_append, List.map_cons]
   rfl
theorem iso_reversed_s (k : Nat) (hk : 304 ≤ k) (m : List Rn) (hg : goods m) (hm : m.length ≤ 300) (b : List Rn) (hb : goods b) (hbl : b.length ≤ 100000000) : f_u47 k m b = some (adds b (m.reverse.map rvs1)) := by
 unfold f_u47
 rw [wrap_id (by omega) (by omega), iso_reversed_l k (by omega) m b m hg hm k m.length b (by omega) (by omega) hb (by omega), List.take_length]
theorem iso_reversed_v (k : Nat) (hk : 304 ≤ k) (m : List Rn) (hg : goods m) (hm : m.length ≤ 300) (b : List Rn) (hb : goods b) (hbl : b.length ≤ 100000000) : v_u47 k m b = adds b (m.reverse.map rvs1) := by
 unfold v_u47; rw [iso_reversed_s k hk m hg hm b hb hbl]; rfl

theorem max_ends {r : Rn} (h : good r) : (if img r (r.2.1 - 1) > r.1 then img r (r.2.1 - 1) else r.1) = hi r := by
 have h1 := h.1
 unfold img hi
 cases r.2.2 <;> simp only [Bool.false_eq_true, if_false, if_true] <;> split <;> omega
theorem min_ends {r : Rn} (h : good r) : (if img r (r.2.1 - 1) < r.1 then img r (r.2.1 - 1) else r.1) = lo r := by
 have h1 := h.1
 unfold img lo
 cases r.2.2 <;> simp only [Bool.false_eq_true, if_false, if_true] <;> split <;> omega

theorem steps_len (outer : List Rn) (r : Rn) : (steps outer r).length ≤ outer.length := by
 unfold steps
 split
 ·simp only [List.length_map, List.length_reverse]; exact pieces_len _ _ _
 ·exact pieces_len _ _ _

theorem iso_Compose16_l (k : Nat) (hk : 700 ≤ k) (inner outer : List Rn) (hin : Chk inner) (ho : Chk outer) (hf : fitsIn (lenS outer) inner) : ∀ (j i : Nat) (b : List Rn), i ≤ inner.length → inner.length - i < j → goods b → b.length ≤ i * 256 →
  f_u33_16 k j outer inner (inner.length : Int) (i : Int) b = some (if ((inner.drop i).foldl (fun b r => adds b (steps outer r)) b).length > 256 then ([], 8) else ((inner.drop i).foldl (fun b r => adds b (steps outer r)) b, 0)) := by
 have hil := hin.len
 have hol := ho.len
 have fitmem : ∀ {n : Int} {l : List Rn}, fitsIn n l → ∀ r ∈ l, hi r < n := fun {n l} => by
  induction l with
  | nil => intro _ r hr; simp at hr
  | cons u v ih =>
   rintro ⟨h1, h2⟩ r hr
   rcases List.mem_cons.1 hr with rfl | hr
   ·exact h1
   ·exact ih h2 r hr
 intro j
 induction j with
 | zero => intros; omega
 | succ j ih =>
  intro i b hi hj hb hbl
  rw [f_u33_16]
  by_cases h : i < inner.length
  ·have hmem : inner.getD i T0.dflt ∈ inner := by simp [h]
   have hgr : good (inner.getD i T0.dflt) := hin.goods.mem _ hmem
   have hfr := fitmem hf _ hmem
   rw [decide_eq_true (by omega : (i : Int) < (inner.length : Int)), cond_true, if_pos ⟨by omega, by omega⟩, drop_cons' inner i T0.dflt h, Int.toNat_natCast]
   generalize inner.getD i T0.dflt = r at hgr hfr
   have hgr' := hgr
   obtain ⟨g1, g2, g3, g4, _⟩ := hgr
   obtain ⟨s1, s2, s3⟩ := steps_spec outer r ho.goods hgr' hfr
   have hsl := steps_len outer r
   have hal := adds_len (steps outer r) b
   have hag := (adds_spec (steps outer r) b hb s1).1
   rw [List.foldl_cons]
   cases hbk : r.snd.snd with
   | false =>
    have es : steps outer r = pieces outer r.1 (r.1 + r.2.1) := by unfold steps; rw [show r.2.2 = r.snd.snd from rfl, hbk, if_neg (by decide)]
    have ok : EachOk outer r.fst (r.fst + r.snd.fst) := ⟨ho.goods, by omega, ⟨by omega, by omega⟩, by omega, by omega⟩
    rw [Bool.not_false, cond_true, wrap_id (i := r.fst + r.snd.fst) (by omega) (by omega), iso_each_add_s k (by omega) outer _ _ ok b hb (by omega), iso_each_add_v k (by omega) outer _ _ ok b hb (by omega), Option.isSome_some, if_pos rfl, wrapS i (by omega), ← es]
    exact ih (i + 1) _ (by omega) (by omega) hag (by omega)
   | true =>
    have es : steps outer r = ((pieces outer (r.1 - r.2.1 + 1) (r.1 + 1)).reverse).map rvs1 := by unfold steps; rw [show r.2.2 = r.snd.snd from rfl, hbk, if_pos rfl]
    have ok : EachOk outer (r.fst - r.snd.fst + 1) (r.fst + 1) := ⟨ho.goods, by omega, ⟨by omega, by omega⟩, by omega, by omega⟩
    have hpl := pieces_len outer (r.fst - r.snd.fst + 1) (r.fst + 1)
    have hpg : goods (pieces outer (r.fst - r.snd.fst + 1) (r.fst + 1)) := (pieces_spec outer _ _ ho.goods (by omega) (by
     unfold Go.AM.hi at hfr
     rw [show r.2.2 = r.snd.snd from rfl, hbk, if_pos rfl] at hfr
     omega) (by omega)).1
    rw [Bool.not_true, cond_false, wrap_id (i := r.fst - r.snd.fst) (by omega) (by omega), wrap_id (i := r.fst - r.snd.fst + 1) (by omega) (by omega), wrap_id (i := r.fst + 1) (by omega) (by omega), iso_each_piece_s k (by omega) outer _ _ ok, iso_each_piece_v k (by omega) outer _ _ ok, Option.isSome_some, if_pos rfl]
    rw [iso_reversed_s k (by omega) _ hpg (by omega) b hb (by omega), iso_reversed_v k (by omega) _ hpg (by omega) b hb (by omega), Option.isSome_some, if_pos rfl, wrapS i (by omega), ← es]
    exact ih (i + 1) _ (by omega) (by omega) hag (by omega)
  ·rw [decide_eq_false (by omega : ¬ (i : Int) < (inner.length : Int)), cond_false, drop_all inner i (by omega)]
   rw [List.foldl_nil]
   by_cases hl : b.length > 256
   ·have e : f_u39 k b = some (.inl 8) := by
     unfold f_u39; rw [decide_eq_true (by omega), cond_true]
    have ev : v_u39 k b = .inl 8 := by unfold v_u39; rw [e]; rfl
    have ea : vA_u39 k b = 8 := by unfold vA_u39; rw [ev]; rfl
    rw [ev, e, ea, if_pos hl]; rfl
   ·have e : f_u39 k b = some (.inr 0) := by
     unfold f_u39; rw [decide_eq_false (by omega), cond_false]
    have ev : v_u39 k b = .inr 0 := by unfold v_u39; rw [e]; rfl
    have ea : vB_u39 k b = 0 := by unfold vB_u39; rw [ev]; rfl
    rw [ev, e, ea, if_neg hl]; rfl

theorem iso_Compose9_l (k : Nat) (hk : 700 ≤ k) (inner outer : List Rn) (hin : Chk inner) (ho : Chk outer) (hf0 : fitsIn (lenS outer) inner → ∀ j, inner.length < j → f_u33_16 k j outer inner (inner.length : Int) 0 [] = some (if (compS inner outer).length > 256 then ([], 8) else (compS inner outer, 0))) : ∀ (j i : Nat), i ≤ inner.length → inner.length - i + inner.length + 1 < j → fitsIn (lenS outer) (inner.take i) →
  f_u33_9 k j inner outer (lenS outer) inner (inner.length : Int) (i : Int) = some (if ¬ fitsIn (lenS outer) inner then ([], 21) else if (compS inner outer).length > 256 then ([], 8) else (compS inner outer, 0)) := by
 have hil := hin.len
 have fitapp : ∀ {n : Int} (a b : List Rn), fitsIn n (a ++ b) ↔ fitsIn n a ∧ fitsIn n b := fun {n} a b => by
  induction a with
  | nil => simp [fitsIn]
  | cons u v ih => simp only [List.cons_append, fitsIn, ih]; exact and_assoc.symm
 intro j
 induction j with
 | zero => intros; omega
 | succ j ih =>
  intro i hi hj hf
  rw [f_u33_9]
  by_cases h : i < inner.length
  ·have hmem : inner.getD i T0.dflt ∈ inner := by simp [h]
   have hgr : good (inner.getD i T0.dflt) := hin.goods.mem _ hmem
   have htk := take_snoc inner i T0.dflt h
   have hdr := drop_cons' inner i T0.dflt h
   rw [decide_eq_true (by omega : (i : Int) < (inner.length : Int)), cond_true, if_pos ⟨by omega, by omega⟩, Int.toNat_natCast]
   generalize inner.getD i T0.dflt = r at hgr htk hdr
   have hgr' := hgr
   obtain ⟨g1, g2, g3, g4, _⟩ := hgr
   rw [wrap_id (i := r.snd.fst - 1) (by omega) (by omega), iso_image_s k r _ (by omega) (by omega) (by omega) (by omega), iso_image_v k r _ (by omega) (by omega) (by omega) (by omega), Option.isSome_some, if_pos rfl, max_ends hgr']
   by_cases hlt : Go.AM.hi r < lenS outer
   ·rw [decide_eq_false (by omega : ¬ Go.AM.hi r ≥ lenS outer), cond_false, wrapS i (by omega)]
    exact ih (i + 1) (by omega) (by omega) (by rw [htk, fitapp]; exact ⟨hf, hlt, trivial⟩)
   ·rw [decide_eq_true (by omega : Go.AM.hi r ≥ lenS outer), cond_true, if_pos]
    intro hfit
    have : inner = inner.take i ++ inner.drop i := (List.take_append_drop i inner).symm
    rw [this, fitapp, hdr] at hfit
    exact hlt hfit.2.1
  ·have : inner.take i = inner := List.take_of_length_le (by omega)
   rw [this] at hf
   rw [decide_eq_false (by omega : ¬ (i : Int) < (inner.length : Int)), cond_false, if_neg (Classical.not_not.2 hf)]
   exact hf0 hf j (by omega)
theorem iso_Compose_s (k : Nat) (hk : 700 ≤ k) (inner outer : List Rn) : f_u33 k inner outer = some (comp inner outer) := by
 unfold f_u33 comp
 rw [iso_Check_s k (by omega), iso_Check_v k (by omega), iso_Check_s k (by omega), iso_Check_v k (by omega), Option.isSome_some, Option.isSome_some, if_pos rfl]
 by_cases h1 : chk inner = 0
 ·rw [show (chk inner != 0) = false by simp [h1], cond_false, if_pos rfl, if_neg (fun h : chk inner ≠ 0 => h h1)]
  by_cases h2 : chk outer = 0
  ·have c1 := chk_zero.1 h1
   have c2 := chk_zero.1 h2
   have l1 := c1.len
   have l2 := c2.len
   rw [show (chk outer != 0) = false by simp [h2], cond_false, if_neg (fun h : chk outer ≠ 0 => h h2), iso_length_s k outer c2.goods (by omega) (by omega), iso_length_v k outer c2.goods (by omega) (by omega), Option.isSome_some, if_pos rfl]
   exact iso_Compose9_l k hk inner outer c1 c2 (fun hf j hj => iso_Compose16_l k hk inner outer c1 c2 hf j 0 [] (by omega) (by omega) trivial (by simp)) k 0 (by omega) (by omega) (by simp [fitsIn])
  ·rw [show (chk outer != 0) = true by simp [h2], cond_true, if_pos h2]
 ·rw [show (chk inner != 0) = true by simp [h1], cond_true, if_pos h1]
theorem iso_Compose_v (k : Nat) (hk : 700 ≤ k) (inner outer : List Rn) : v_u33 k inner outer = comp inner outer := by
 unfold v_u33; rw [iso_Compose_s k hk]; rfl
end Go.AM
namespace Go.AM
open Go Go.IntKind

end Go.AM
namespace Go.AM
open Go Go.Proofs Go.IntKind

end Go.AM
namespace Go.AM
open Go Go.Proofs Go.IntKind

theorem fitsIn.mem {n : Int} : ∀ {l : List Rn}, fitsIn n l → ∀ r ∈ l, hi r < n
 | [], _, r, hr => by simp at hr
 | u :: v, ⟨h1, h2⟩, r, hr => by
  rcases List.mem_cons.1 hr with rfl | hr
  ·exact h1
  ·exact fitsIn.mem h2 r hr
def atS (m : List Rn) (x : Int) : Int × Int := if chk m ≠ 0 then (0, chk m) else if x < 0 ∨ x ≥ lenS m then (0, 1) else (imgAt m x, 0)

theorem iso_each_at_l (k : Nat) (m0 : List Rn) (f0 t0 c0 : Int) (m : List Rn) (x : Int) (hg : goods m) (hm : m.length ≤ 300) (h0 : 0 ≤ x) (h1 : x ≤ 1125899906842624) : ∀ (j i : Nat) (a y : Int), i ≤ m.length → m.length - i < j → 0 ≤ a → a ≤ (i : Int) * 17179869184 →
  f_u41_2 k m0 f0 t0 c0 j x (x + 1) a m (m.length : Int) (i : Int) y = some (if a ≤ x ∧ x - a < lenS (m.drop i) then imgAt (m.drop i) (x - a) else y) := by
 intro j
 induction j with
 | zero => intros; omega
 | succ j ih =>
  intro i a y hi hj ha0 ha
  rw [f_u41_2]
  by_cases h : i < m.length
  ·have hgr : good (m.getD i T0.dflt) := hg.mem _ (by simp [h])
   have hgd : goods (m.drop (i + 1)) := by
    have : goods (m.take (i + 1) ++ m.drop (i + 1)) := by rw [List.take_append_drop]; exact hg
    exact ((goods_append _ _).1 this).2
   have hnn := lenS_nonneg hgd
   rw [decide_eq_true (by omega : (i : Int) < (m.length : Int)), cond_true, if_pos ⟨by omega, by omega⟩, drop_cons' m i T0.dflt h, Int.toNat_natCast]
   generalize m.getD i T0.dflt = r at hgr
   obtain ⟨g1, g2, g3, g4, _⟩ := hgr
   obtain ⟨e1, e2, e3⟩ := piece_eq r x (x + 1) a
   have m1 : -9223372036854775808 ≤ (if a > x then a else x) - a := by split <;> omega
   have m2 : (if a > x then a else x) - a < 9223372036854775808 := by split <;> omega
   have m3 : -9223372036854775808 ≤ (if a + r.snd.fst < x + 1 then a + r.snd.fst else x + 1) - (if a > x then a else x) := by split <;> split <;> omega
   have m4 : (if a + r.snd.fst < x + 1 then a + r.snd.fst else x + 1) - (if a > x then a else x) < 9223372036854775808 := by split <;> split <;> omega
   rw [wrap_id (i := a + r.snd.fst) (by omega) (by omega), wrap_id m1 m2, wrap_id m3 m4, wrapS i (by omega), e1, e2]
   have hl : lenS (r :: m.drop (i + 1)) = r.2.1 + lenS (m.drop (i + 1)) := rfl
   have him : imgAt (r :: m.drop (i + 1)) (x - a) = if x - a < r.2.1 then img r (x - a) else imgAt (m.drop (i + 1)) (x - a - r.2.1) := rfl
   rw [hl, him]
   by_cases hc : max (x - a) 0 < min (x + 1 - a) r.2.1
   ·rw [decide_eq_true (e3.2 hc), cond_true, iso_part_s k r _ _ (by omega) (by omega) (by omega) (by omega), iso_part_v k r _ _ (by omega) (by omega) (by omega) (by omega)]
    have ev : ∀ p : Rn, v_u31 k p y = p.1 := fun p => rfl
    have ec : ∀ p : Rn, f_u31 k p y = some p.1 := fun p => rfl
    rw [ev, ec, if_pos ⟨rfl, rfl⟩, ih (i + 1) _ _ (by omega) (by omega) (by omega) (by omega)]
    rw [if_neg (by omega), if_pos (by omega), if_pos (by omega)]
    show some (img r (max (x - a) 0)) = _
    rw [show max (x - a) 0 = x - a by omega]
   ·rw [decide_eq_false (fun q => hc (e3.1 q)), cond_false, ih (i + 1) _ _ (by omega) (by omega) (by omega) (by omega)]
    by_cases hin : a ≤ x ∧ x - a < r.2.1 + lenS (m.drop (i + 1))
    ·rw [if_pos hin, if_pos (by omega), if_neg (by omega)]
     congr 2; omega
    ·rw [if_neg hin, if_neg (by omega)]
  ·rw [decide_eq_false (by omega : ¬ (i : Int) < (m.length : Int)), cond_false, drop_all m i (by omega), if_neg (by simp only [lenS]; omega)]
theorem iso_At_s (k : Nat) (hk : 304 ≤ k) (m : List Rn) (x : Int) : f_u30 k m x = some (atS m x) := by
 unfold f_u30 atS
 rw [iso_Check_s k (by omega), iso_Check_v k (by omega), Option.isSome_some, if_pos rfl]
 by_cases h1 : chk m = 0
 ·have c1 := chk_zero.1 h1
  have l1 := c1.len
  have t1 := c1.tot
  rw [show (chk m != 0) = false by simp [h1], cond_false, if_neg (fun h : chk m ≠ 0 => h h1), iso_length_s k m c1.goods (by omega) (by omega), iso_length_v k m c1.goods (by omega) (by omega)]
  by_cases h0 : x < 0
  ·rw [decide_eq_true h0, cond_true, if_pos rfl, if_pos (.inl h0)]
  ·rw [decide_eq_false h0, cond_false, if_pos ⟨rfl, rfl⟩, Bool.false_or]
   by_cases h2 : x ≥ lenS m
   ·rw [decide_eq_true h2, cond_true, if_pos (.inr h2)]
   ·rw [decide_eq_false h2, cond_false, if_neg (show ¬ (x < 0 ∨ x ≥ lenS m) by omega), wrap_id (by omega) (by omega)]
    have e : f_u41 k m x (x + 1) 0 = some (imgAt m x) := by
     unfold f_u41
     have := iso_each_at_l k m x (x + 1) 0 m x c1.goods (by omega) (by omega) (by omega) k 0 0 0 (by omega) (by omega) (by omega) (by omega)
     rw [Int.sub_zero, List.drop_zero, if_pos (by omega)] at this
     exact this
    have ev : v_u41 k m x (x + 1) 0 = imgAt m x := by unfold v_u41; rw [e]; rfl
    rw [e, ev]; rfl
 ·rw [show (chk m != 0) = true by simp [h1], cond_true, if_pos h1]
theorem iso_At_v (k : Nat) (hk : 304 ≤ k) (m : List Rn) (x : Int) : v_u30 k m x = atS m x := by
 unfold v_u30; rw [iso_At_s k hk]; rfl
end Go.AM
namespace Go.AM
open Go Go.IntKind

theorem asc_of_pairwise : ∀ (l : List Sp) (b : Int), (∀ s ∈ l, b ≤ s.1) → l.Pairwise (fun x y => x.1 ≤ y.1) → Asc b l
 | [], _, _, _ => trivial
 | s :: t, b, h, hp => by
  obtain ⟨h1, h2⟩ := List.pairwise_cons.1 hp
  exact ⟨h s (by simp), asc_of_pairwise t s.1 (fun u hu => h1 u hu) h2⟩

def nf (l : List Sp) : List Sp := jn0 (sortSP l)

theorem In.small {l : List Sp} (h : In 0 17179869184 l) : ∀ x ∈ l, SmallI x.1 := fun x hx => by
 obtain ⟨a, b, c⟩ := h.mem x hx
 exact ⟨a, by omega⟩
theorem nf_asc {l : List Sp} (h : In 0 17179869184 l) : Asc 0 (sortSP l) :=
 asc_of_pairwise _ 0 (fun s hs => (h.mem s ((perm_sortSP h.small).mem_iff.1 hs)).1) sorted_sortSP
theorem nf_nr {l : List Sp} (h : In 0 17179869184 l) : Nr (-1) (nf l) := jn0_nr _ _ (nf_asc h)
theorem nf_has {l : List Sp} (h : In 0 17179869184 l) (x : Int) : has (nf l) x ↔ has l x := by
 unfold nf
 rw [jn0_has _ 0 x (nf_asc h), has_perm (perm_sortSP h.small)]
theorem nf_in {l : List Sp} (h : In 0 17179869184 l) : In 0 17179869184 (nf l) :=
 jn0_in _ (In.of fun s hs => h.mem s ((perm_sortSP h.small).mem_iff.1 hs))
theorem nf_len {l : List Sp} (h : In 0 17179869184 l) : (nf l).length ≤ l.length := by
 have := jn0_len (sortSP l)
 rw [(perm_sortSP h.small).length_eq] at this
 exact this
theorem nf_uniq {l m : List Sp} (h : In 0 17179869184 l) (hm : Nr (-1) m) (he : ∀ x, has m x ↔ has l x) : m = nf l :=
 Nr.uniq hm (nf_nr h) fun x => (he x).trans (nf_has h x).symm
theorem nf_self {l : List Sp} (h : In 0 17179869184 l) (hn : Nr (-1) l) : nf l = l := (nf_uniq h hn fun _ => Iff.rfl).symm

def chkS (l : List Sp) : Int := if l.length > 256 then 8 else if l.all (fun s => decide (0 ≤ s.1 ∧ s.1 ≤ s.2 ∧ s.2 ≤ 17179869184)) = true then 0 else 1
theorem chkS_zero {l : List Sp} : chkS l = 0 ↔ l.length ≤ 256 ∧ In 0 17179869184 l := by
 unfold chkS
 constructor
 ·intro h
  by_cases h1 : l.length > 256
  ·rw [if_pos h1] at h; omega
  ·rw [if_neg h1] at h
   by_cases h2 : l.all (fun s => decide (0 ≤ s.1 ∧ s.1 ≤ s.2 ∧ s.2 ≤ 17179869184)) = true
   ·exact ⟨by omega, In.of fun s hs => of_decide_eq_true (List.all_eq_true.1 h2 s hs)⟩
   ·rw [if_neg h2] at h; omega
 ·rintro ⟨h1, h2⟩
  rw [if_neg (by omega), if_pos (List.all_eq_true.2 fun s hs => decide_eq_true (h2.mem s hs))]

def normS (l : List Sp) : List Sp × Int := if chkS l ≠ 0 then ([], chkS l) else (nf l, 0)
def totalS (l : List Sp) : Int × Int := if chkS l ≠ 0 then (0, chkS l) else (tot (nf l), 0)

end Go.AM
namespace Go.AM
open Go Go.IntKind

def ins : List Int → Int → List Int
 | [], n => [n]
 | x :: t, n => if x < n then x :: ins t n else if x = n then x :: t else n :: x :: t
theorem ins_mem : ∀ (l : List Int) (n x : Int), x ∈ ins l n ↔ x = n ∨ x ∈ l
 | [], n, x => by simp [ins]
 | y :: t, n, x => by
  unfold ins
  by_cases h : y < n
  ·rw [if_pos h]; simp only [List.mem_cons, ins_mem t n x]
   constructor
   ·rintro (h | h | h) <;> simp [h]
   ·rintro (h | h | h) <;> simp [h]
  ·rw [if_neg h]
   by_cases h2 : y = n
   ·rw [if_pos h2]; simp only [List.mem_cons]; subst h2
    constructor
    ·intro h; exact .inr h
    ·rintro (h | h)
     ·exact .inl h
     ·exact h
   ·rw [if_neg h2]; simp
theorem ins_sorted : ∀ (l : List Int) (n : Int), l.Pairwise (· < ·) → (ins l n).Pairwise (· < ·)
 | [], n, _ => by simp [ins]
 | y :: t, n, hp => by
  obtain ⟨h1, h2⟩ := List.pairwise_cons.1 hp
  unfold ins
  by_cases h : y < n
  ·rw [if_pos h]
   refine List.pairwise_cons.2 ⟨fun x hx => ?_, ins_sorted t n h2⟩
   rcases (ins_mem t n x).1 hx with rfl | hx
   ·exact h
   ·exact h1 x hx
  ·rw [if_neg h]
   by_cases h2 : y = n
   ·rw [if_pos h2]; exact hp
   ·rw [if_neg h2]
    refine List.pairwise_cons.2 ⟨fun x hx => ?_, hp⟩
    rcases List.mem_cons.1 hx with rfl | hx
    ·omega
    ·have := h1 x hx; omega
theorem ins_len : ∀ (l : List Int) (n : Int), (ins l n).length ≤ l.length + 1
 | [], n => by simp [ins]
 | y :: t, n => by
  unfold ins
  split
  ·have := ins_len t n; simp; omega
  ·split <;> simp

def cutsF : List Int → List Sp → List Int
 | acc, [] => acc
 | acc, s :: t => cutsF (ins (ins acc s.1) s.2) t
theorem cutsF_mem : ∀ (l : List Sp) (acc : List Int) (x : Int), x ∈ cutsF acc l ↔ x ∈ acc ∨ ∃ s ∈ l, x = s.1 ∨ x = s.2
 | [], acc, x => by simp [cutsF]
 | s :: t, acc, x => by
  rw [cutsF, cutsF_mem t, ins_mem, ins_mem]
  simp only [List.mem_cons]
  constructor
  ·rintro ((h | h | h) | ⟨u, hu, h⟩)
   ·exact .inr ⟨s, .inl rfl, .inr h⟩
   ·exact .inr ⟨s, .inl rfl, .inl h⟩
   ·exact .inl h
   ·exact .inr ⟨u, .inr hu, h⟩
  ·rintro (h | ⟨u, rfl | hu, h | h⟩)
   ·exact .inl (.inr (.inr h))
   ·exact .inl (.inr (.inl h))
   ·exact .inl (.inl h)
   ·exact .inr ⟨u, hu, .inl h⟩
   ·exact .inr ⟨u, hu, .inr h⟩
theorem cutsF_sorted : ∀ (l : List Sp) (acc : List Int), acc.Pairwise (· < ·) → (cutsF acc l).Pairwise (· < ·)
 | [], acc, h => h
 | s :: t, acc, h => cutsF_sorted t _ (ins_sorted _ _ (ins_sorted _ _ h))
theorem cutsF_len : ∀ (l : List Sp) (acc : List Int), (cutsF acc l).length ≤ acc.length + 2 * l.length
 | [], acc => by simp [cutsF]
 | s :: t, acc => by
  have h1 := cutsF_len t (ins (ins acc s.1) s.2)
  have h2 := ins_len (ins acc s.1) s.2
  have h3 := ins_len acc s.1
  rw [cutsF]; simp only [List.length_cons]; omega

def hasB (l : List Sp) (x : Int) : Bool := l.any fun s => decide (s.1 ≤ x) && decide (x < s.2)
theorem hasB_iff (l : List Sp) (x : Int) : hasB l x = true ↔ has l x := by
 rw [has_iff]
 unfold hasB
 simp only [List.any_eq_true, Bool.and_eq_true, decide_eq_true_eq]

def cmb1 (a : List Sp) : Sp → List Int → List Sp
 | c, x :: y :: t => if hasB a x = true then (if c.2 = x then cmb1 a (c.1, y) (y :: t) else c :: cmb1 a (x, y) (y :: t)) else cmb1 a c (y :: t)
 | c, _ => [c]
def cmb0 (a : List Sp) : List Int → List Sp
 | x :: y :: t => if hasB a x = true then cmb1 a (x, y) (y :: t) else cmb0 a (y :: t)
 | _ => []
def seg (a : List Sp) : List Int → Int → Prop
 | x :: y :: t, z => (hasB a x = true ∧ x ≤ z ∧ z < y) ∨ seg a (y :: t) z
 | _, _ => False

theorem cmb1_nr (a : List Sp) : ∀ (l : List Int) (c : Sp) (b : Int), b < c.1 → c.1 < c.2 → l.Pairwise (· < ·) → (∀ x ∈ l, c.2 ≤ x) → Nr b (cmb1 a c l)
 | [], c, b, h1, h2, _, _ => ⟨h1, h2, trivial⟩
 | [x], c, b, h1, h2, _, _ => ⟨h1, h2, trivial⟩
 | x :: y :: t, c, b, h1, h2, hp, hc => by
  obtain ⟨p1, p2⟩ := List.pairwise_cons.1 hp
  have hxy := p1 y (by simp)
  have hcx := hc x (by simp)
  have hyt : ∀ u ∈ y :: t, y ≤ u := fun u hu => by
   rcases List.mem_cons.1 hu with rfl | hu
   ·exact Int.le_refl _
   ·have := (List.pairwise_cons.1 p2).1 u hu; omega
  unfold cmb1
  by_cases q : hasB a x = true
  ·rw [if_pos q]
   by_cases q2 : c.2 = x
   ·rw [if_pos q2]; exact cmb1_nr a (y :: t) (c.1, y) b h1 (by show c.1 < y; omega) p2 hyt
   ·rw [if_neg q2]; exact ⟨h1, h2, cmb1_nr a (y :: t) (x, y) c.2 (by show c.2 < x; omega) hxy p2 hyt⟩
  ·rw [if_neg q]; exact cmb1_nr a (y :: t) c b h1 h2 p2 fun u hu => by have := hyt u hu; omega
theorem cmb1_has (a : List Sp) : ∀ (l : List Int) (c : Sp) (z : Int), l.Pairwise (· < ·) → (∀ x ∈ l, c.2 ≤ x) → c.1 < c.2 → (has (cmb1 a c l) z ↔ (c.1 ≤ z ∧ z < c.2) ∨ seg a l z)
 | [], c, z, _, _, _ => by simp [cmb1, has, seg]
 | [x], c, z, _, _, _ => by simp [cmb1, has, seg]
 | x :: y :: t, c, z, hp, hc, h2 => by
  obtain ⟨p1, p2⟩ := List.pairwise_cons.1 hp
  have hxy := p1 y (by simp)
  have hcx := hc x (by simp)
  have hyt : ∀ u ∈ y :: t, y ≤ u := fun u hu => by
   rcases List.mem_cons.1 hu with rfl | hu
   ·exact Int.le_refl _
   ·have := (List.pairwise_cons.1 p2).1 u hu; omega
  unfold cmb1 seg
  by_cases q : hasB a x = true
  ·rw [if_pos q]
   by_cases q2 : c.2 = x
   ·rw [if_pos q2, cmb1_has a (y :: t) (c.1, y) z p2 hyt (by show c.1 < y; omega)]
    constructor
    ·rintro (h | h)
     ·have h : c.1 ≤ z ∧ z < y := h
      by_cases q3 : z < c.2
      ·exact .inl ⟨h.1, q3⟩
      ·exact .inr (.inl ⟨q, by omega, h.2⟩)
     ·exact .inr (.inr h)
    ·rintro (h | ⟨_, h⟩ | h)
     ·exact .inl ⟨h.1, by show z < y; omega⟩
     ·exact .inl ⟨by show c.1 ≤ z; omega, h.2⟩
     ·exact .inr h
   ·rw [if_neg q2]
    show (c.1 ≤ z ∧ z < c.2) ∨ has (cmb1 a (x, y) (y :: t)) z ↔ _
    rw [cmb1_has a (y :: t) (x, y) z p2 hyt hxy]
    constructor
    ·rintro (h | h | h)
     ·exact .inl h
     ·exact .inr (.inl ⟨q, h⟩)
     ·exact .inr (.inr h)
    ·rintro (h | ⟨_, h⟩ | h)
     ·exact .inl h
     ·exact .inr (.inl h)
     ·exact .inr (.inr h)
  ·rw [if_neg q, cmb1_has a (y :: t) c z p2 (fun u hu => by have := hyt u hu; omega) h2]
   constructor
   ·rintro (h | h)
    ·exact .inl h
    ·exact .inr (.inr h)
   ·rintro (h | ⟨h, _⟩ | h)
    ·exact .inl h
    ·exact absurd h q
    ·exact .inr h
theorem cmb0_nr (a : List Sp) : ∀ (l : List Int) (b : Int), l.Pairwise (· < ·) → (∀ x ∈ l, b < x) → Nr b (cmb0 a l)
 | [], b, _, _ => trivial
 | [x], b, _, _ => trivial
 | x :: y :: t, b, hp, hb => by
  obtain ⟨p1, p2⟩ := List.pairwise_cons.1 hp
  have hxy := p1 y (by simp)
  have hyt : ∀ u ∈ y :: t, y ≤ u := fun u hu => by
   rcases List.mem_cons.1 hu with rfl | hu
   ·exact Int.le_refl _
   ·have := (List.pairwise_cons.1 p2).1 u hu; omega
  unfold cmb0
  by_cases q : hasB a x = true
  ·rw [if_pos q]; exact cmb1_nr a (y :: t) (x, y) b (hb x (by simp)) hxy p2 hyt
  ·rw [if_neg q]; exact cmb0_nr a (y :: t) b p2 fun u hu => hb u (by simp [hu])
theorem cmb0_has (a : List Sp) : ∀ (l : List Int) (z : Int), l.Pairwise (· < ·) → (has (cmb0 a l) z ↔ seg a l z)
 | [], z, _ => Iff.rfl
 | [x], z, _ => Iff.rfl
 | x :: y :: t, z, hp => by
  obtain ⟨p1, p2⟩ := List.pairwise_cons.1 hp
  have hxy := p1 y (by simp)
  have hyt : ∀ u ∈ y :: t, y ≤ u := fun u hu => by
   rcases List.mem_cons.1 hu with rfl | hu
   ·exact Int.le_refl _
   ·have := (List.pairwise_cons.1 p2).1 u hu; omega
  unfold cmb0 seg
  by_cases q : hasB a x = true
  ·rw [if_pos q, cmb1_has a (y :: t) (x, y) z p2 hyt hxy]
   constructor
   ·rintro (h | h)
    ·exact .inl ⟨q, h⟩
    ·exact .inr h
   ·rintro (⟨_, h⟩ | h)
    ·exact .inl h
    ·exact .inr h
  ·rw [if_neg q, cmb0_has a (y :: t) z p2]
   exact ⟨.inr, fun h => h.elim (fun h => absurd h.1 q) id⟩

theorem seg_has (a : List Sp) (h0 : ∀ s ∈ a, s.1 ≤ s.2) : ∀ (l : List Int) (z : Int), l.Pairwise (· < ·) → (∀ s ∈ a, s.1 ≤ z → z < s.2 → (s.2 ∈ l ∧ (s.1 ∈ l ∨ ∀ x ∈ l, s.1 ≤ x))) → (∀ s ∈ a, ∀ x ∈ l, s.1 ≤ x → x < s.2 → s.2 ∈ l) → (∀ x ∈ l, z < x) ∨ (seg a l z ↔ has a z)
 | [], z, _, h, _ => .inl (by simp)
 | [x], z, _, h, _ => by
  by_cases hz : z < x
  ·left; simpa using hz
  ·right
   refine ⟨fun h => h.elim, fun hh => ?_⟩
   obtain ⟨s, hs, h1, h2⟩ := (has_iff a z).1 hh
   obtain ⟨k1, k2⟩ := h s hs h1 h2
   have : s.2 = x := by simpa using k1
   omega
 | x :: y :: t, z, hp, h, h' => by
  obtain ⟨p1, p2⟩ := List.pairwise_cons.1 hp
  have hxy := p1 y (by simp)
  have hyt : ∀ u ∈ y :: t, y ≤ u := fun u hu => by
   rcases List.mem_cons.1 hu with rfl | hu
   ·exact Int.le_refl _
   ·have := (List.pairwise_cons.1 p2).1 u hu; omega
  by_cases hz : z < x
  ·left
   intro u hu
   rcases List.mem_cons.1 hu with rfl | hu
   ·exact hz
   ·have := hyt u hu; omega
  ·right
   by_cases hzy : z < y
   ·-- between x and y
    have hno : ¬ seg a (y :: t) z := by
     have : ∀ (l : List Int), (∀ u ∈ l, z < u) → ¬ seg a l z := fun l => by
      induction l with
      | nil => intro _ h; exact h
      | cons u v ih =>
       intro hu hs
       cases v with
       | nil => exact hs
       | cons w r =>
        rcases hs with ⟨_, h1, _⟩ | hs
        ·have := hu u (by simp); omega
        ·exact ih (fun q hq => hu q (by simp [hq])) hs
     exact this _ fun u hu => by have := hyt u hu; omega
    constructor
    ·rintro (⟨h1, h2, h3⟩ | h1)
     ·obtain ⟨s, hs, k1, k2⟩ := (has_iff a x).1 ((hasB_iff a x).1 h1)
      have k3 := h' s hs x (by simp) k1 k2
      have : y ≤ s.2 := by
       rcases List.mem_cons.1 k3 with e | e
       ·omega
       ·exact hyt _ e
      exact (has_iff a z).2 ⟨s, hs, by omega, by omega⟩
     ·exact absurd h1 hno
    ·intro hh
     obtain ⟨s, hs, k1, k2⟩ := (has_iff a z).1 hh
     obtain ⟨k3, k4⟩ := h s hs k1 k2
     left
     refine ⟨(hasB_iff a x).2 ((has_iff a x).2 ⟨s, hs, ?_, by omega⟩), by omega, hzy⟩
     rcases k4 with k4 | k4
     ·rcases List.mem_cons.1 k4 with e | e
      ·omega
      ·have := hyt _ e; omega
     ·exact k4 x (by simp)
   ·have ih := seg_has a h0 (y :: t) z p2 (fun s hs k1 k2 => by
     obtain ⟨k3, k4⟩ := h s hs k1 k2
     refine ⟨?_, ?_⟩
     ·rcases List.mem_cons.1 k3 with e | e
      ·omega
      ·exact e
     ·rcases k4 with k4 | k4
      ·rcases List.mem_cons.1 k4 with e | e
       ·exact .inr fun u hu => by have := hyt u hu; omega
       ·exact .inl e
      ·exact .inr fun u hu => k4 u (by simp [hu])) (fun s hs u hu k1 k2 => by
     rcases List.mem_cons.1 (h' s hs u (by simp [hu]) k1 k2) with e | e
     ·have := hyt u hu; omega
     ·exact e)
    have hsame : seg a (x :: y :: t) z ↔ seg a (y :: t) z := by
     show (hasB a x = true ∧ x ≤ z ∧ z < y) ∨ seg a (y :: t) z ↔ _
     exact ⟨fun h => h.elim (fun h => absurd h.2.2 hzy) id, .inr⟩
    rcases ih with ih | ih
    ·exact absurd (ih y (by simp)) hzy
    ·exact hsame.trans ih

theorem cmb_nf {l : List Sp} (h : In 0 17179869184 l) : cmb0 l (cutsF [] l) = nf l := by
 have hs := cutsF_sorted l [] List.Pairwise.nil
 have hm : ∀ x, x ∈ cutsF [] l ↔ ∃ s ∈ l, x = s.1 ∨ x = s.2 := fun x => by rw [cutsF_mem]; simp
 refine nf_uniq h (cmb0_nr l _ (-1) hs fun x hx => ?_) fun z => ?_
 ·obtain ⟨s, hs, hx⟩ := (hm x).1 hx
  have := h.mem s hs
  rcases hx with rfl | rfl <;> omega
 ·rw [cmb0_has l _ z hs]
  rcases seg_has l (fun s hs => (h.mem s hs).2.1) (cutsF [] l) z hs (fun s hs _ _ => ⟨(hm _).2 ⟨s, hs, .inr rfl⟩, .inl ((hm _).2 ⟨s, hs, .inl rfl⟩)⟩) (fun s hs x _ _ _ => (hm _).2 ⟨s, hs, .inr rfl⟩) with k | k
  ·constructor
   ·intro hseg
    exfalso
    have : ∀ (m : List Int), (∀ u ∈ m, z < u) → ¬ seg l m z := fun m => by
     induction m with
     | nil => intro _ h; exact h
     | cons u v ih =>
      intro hu hs
      cases v with
      | nil => exact hs
      | cons w r =>
       rcases hs with ⟨_, h1, _⟩ | hs
       ·have := hu u (by simp); omega
       ·exact ih (fun q hq => hu q (by simp [hq])) hs
    exact this _ k hseg
   ·intro hh
    obtain ⟨s, hs, k1, k2⟩ := (has_iff l z).1 hh
    have := k _ ((hm s.1).2 ⟨s, hs, .inl rfl⟩)
    omega
  ·exact k
end Go.AM
namespace Go.AM
open Go Go.Proofs Go.IntKind

theorem eqT_sp (a b : Sp) : eqT T8 a b = decide (a = b) := by
 show ((a.1 == b.1) && (a.2 == b.2)) = _
 by_cases h1 : a.1 = b.1 <;> by_cases h2 : a.2 = b.2 <;> simp [h1, h2, Prod.ext_iff]

theorem span_Check_l (k : Nat) (l : List Sp) (hl : l.length ≤ 256) : ∀ (j i : Nat), i ≤ l.length → l.length - i < j →
  f_u105_4 k j l (l.length : Int) (i : Int) = some (if (l.drop i).all (fun s => decide (0 ≤ s.1 ∧ s.1 ≤ s.2 ∧ s.2 ≤ 17179869184)) = true then 0 else 1) := by
 intro j
 induction j with
 | zero => intros; omega
 | succ j ih =>
  intro i hi hj
  rw [f_u105_4]
  by_cases h : i < l.length
  ·rw [decide_eq_true (by omega : (i : Int) < (l.length : Int)), cond_true, if_pos ⟨by omega, by omega⟩, drop_cons' l i T8.dflt h, Int.toNat_natCast, List.all_cons]
   generalize l.getD i T8.dflt = s
   by_cases hs : 0 ≤ s.1 ∧ s.1 ≤ s.2 ∧ s.2 ≤ 17179869184
   ·rw [decide_eq_false (by omega : ¬ s.fst < 0), decide_eq_false (by omega : ¬ s.fst > s.snd), decide_eq_false (by omega : ¬ s.snd > 17179869184), Bool.or_self, Bool.or_self, cond_false, wrapS i (by omega), ih (i + 1) (by omega) (by omega), decide_eq_true hs, Bool.true_and]
   ·have : (decide (s.fst < 0) || decide (s.fst > s.snd) || decide (s.snd > 17179869184)) = true := by
     by_cases a : s.fst < 0
     ·rw [decide_eq_true a]; rfl
     ·by_cases b : s.fst > s.snd
      ·rw [decide_eq_true b, Bool.or_true]; rfl
      ·rw [decide_eq_true (by omega : s.snd > 17179869184), Bool.or_true]
    rw [this, cond_true, decide_eq_false hs, Bool.false_and, if_neg (by decide)]
  ·rw [decide_eq_false (by omega : ¬ (i : Int) < (l.length : Int)), cond_false, drop_all l i (by omega)]
   rfl
theorem span_Check_s (k : Nat) (hk : 300 ≤ k) (l : List Sp) : f_u105 k l = some (chkS l) := by
 unfold f_u105 chkS
 by_cases h : l.length > 256
 ·rw [decide_eq_true (by omega : (l.length : Int) > 256), cond_true, if_pos h]
 ·rw [decide_eq_false (by omega : ¬ (l.length : Int) > 256), cond_false, if_neg h]
  exact span_Check_l k l (by omega) k 0 (by omega) (by omega)
theorem span_Check_v (k : Nat) (hk : 300 ≤ k) (l : List Sp) : v_u105 k l = chkS l := by
 unfold v_u105; rw [span_Check_s k hk]; rfl

theorem last_idxS (pre : List Sp) (c : Sp) (h : pre.length < 4611686018427387904) : (i64.wrap (((pre ++ [c]).length : Int) - 1)).toNat = pre.length := by
 rw [List.length_append, List.length_singleton, wrap_id (by omega) (by omega)]; omega
theorem last_getS (pre : List Sp) (c d : Sp) : (pre ++ [c]).getD pre.length d = c := by simp
theorem last_setS (pre : List Sp) (c d : Sp) : (pre ++ [c]).set pre.length d = pre ++ [d] := by simp

theorem span_joined_l (k : Nat) (l : List Sp) (hl : l.length ≤ 100000) : ∀ (j i : Nat), i ≤ l.length → l.length - i < j →
  (∀ last : Sp, last.1 ≥ last.2 → f_u109_6 k j (l.length : Int) (i : Int) [] last l = some (jn0 (l.drop i))) ∧
  (∀ (pre : List Sp) (c last : Sp), pre.length ≤ i → (last.1 ≥ last.2 ∨ last.2 ≤ c.2) → f_u109_6 k j (l.length : Int) (i : Int) (pre ++ [c]) last l = some (pre ++ jn c (l.drop i))) := by
 intro j
 induction j with
 | zero => intros; omega
 | succ j ih =>
  intro i hi hj
  by_cases h : i < l.length
  ·refine ⟨fun last hla => ?_, fun pre c last hp hla => ?_⟩
   ·rw [f_u109_6, decide_eq_true (by omega : (i : Int) < (l.length : Int)), cond_true, if_pos ⟨by omega, by omega⟩, drop_cons' l i T8.dflt h, Int.toNat_natCast, eqT_sp, jn0]
    obtain ⟨ih1, ih2⟩ := ih (i + 1) (by omega) (by omega)
    generalize l.getD i T8.dflt = s at *
    by_cases q : s.1 ≥ s.2
    ·rw [decide_eq_true q, Bool.true_or, cond_true, if_pos q, wrapS i (by omega)]
     exact ih1 s q
    ·have hne : ¬ s = last := fun e => q (e ▸ hla)
     rw [decide_eq_false q, decide_eq_false hne, Bool.false_or, cond_false, if_neg q, wrapS i (by omega)]
     rw [if_pos ⟨fun e => (by simp at e), fun e => (by simp at e)⟩]
     show (bif decide ((0 : Int) > 0) && _ then _ else _) = _
     rw [decide_eq_false (by omega), Bool.false_and, cond_false, if_pos (by simp), List.nil_append]
     exact ih2 [] s s (by simp) (.inr (Int.le_refl _))
   ·rw [f_u109_6, decide_eq_true (by omega : (i : Int) < (l.length : Int)), cond_true, if_pos ⟨by omega, by omega⟩, drop_cons' l i T8.dflt h, Int.toNat_natCast, eqT_sp, jn]
    obtain ⟨ih1, ih2⟩ := ih (i + 1) (by omega) (by omega)
    generalize l.getD i T8.dflt = s at *
    have hlen : (pre ++ [c]).length = pre.length + 1 := by simp
    by_cases q : s.1 ≥ s.2
    ·rw [decide_eq_true q, Bool.true_or, cond_true, if_pos q, wrapS i (by omega)]
     exact ih2 pre c s (by omega) (.inl q)
    ·rw [if_neg q, decide_eq_false q, Bool.false_or]
     by_cases he : s = last
     ·have h2 : s.2 ≤ c.2 := by
       subst he
       rcases hla with h | h
       ·exact absurd h q
       ·exact h
      rw [decide_eq_true he, cond_true, wrapS i (by omega), if_pos (by omega), if_neg (by omega)]
      exact ih2 pre c s (by omega) (.inr h2)
     ·have hidx : (0 : Int) ≤ i64.wrap (((pre ++ [c]).length : Int) - 1) ∧ i64.wrap (((pre ++ [c]).length : Int) - 1) < ((pre ++ [c]).length : Int) := by
       rw [hlen, wrap_id (by omega) (by omega)]; exact ⟨by omega, by omega⟩
      rw [decide_eq_false he, cond_false, if_pos ⟨fun _ => hidx.1, fun _ => hidx.2⟩, decide_eq_true (by rw [hlen]; omega), Bool.true_and, last_idxS pre c (by omega), last_getS, last_setS, wrapS i (by omega)]
      by_cases q2 : s.1 ≤ c.2
      ·rw [decide_eq_true q2, cond_true, if_pos ⟨hidx.1, hidx.2, hidx.1, hidx.2⟩, if_pos q2]
       exact ih2 pre (c.1, if s.2 > c.2 then s.2 else c.2) s (by omega) (.inr (by show s.2 ≤ if s.2 > c.2 then s.2 else c.2; split <;> omega))
      ·rw [decide_eq_false q2, cond_false, if_pos (by rw [hlen, List.length_singleton]; omega), if_neg q2]
       rw [ih2 (pre ++ [c]) s s (by simp; omega) (.inr (Int.le_refl _))]
       simp
  ·have hd := drop_all l i (by omega)
   refine ⟨fun last hla => ?_, fun pre c last hp hla => ?_⟩
   ·rw [f_u109_6, decide_eq_false (by omega : ¬ (i : Int) < (l.length : Int)), cond_false, hd]; rfl
   ·rw [f_u109_6, decide_eq_false (by omega : ¬ (i : Int) < (l.length : Int)), cond_false, hd]; rfl
theorem span_joined_s (k : Nat) (l : List Sp) (h : In 0 17179869184 l) (hl : l.length ≤ 100000) (hk : l.length < k) : f_u109 k l = some (nf l) := by
 have e1 : f_u97 k l = some l := by
  unfold f_u97; rw [if_pos (by omega)]
 have v1 : v_u97 k l = l := by unfold v_u97; rw [e1]; rfl
 have e2 : f_u100 k l = some (sortSP l) := by
  unfold f_u100
  rw [if_pos ⟨List.all_eq_true.2 fun x hx => decide_eq_true (h.small x hx), by omega⟩]
 have v2 : v_u100 k l = sortSP l := by unfold v_u100; rw [e2]; rfl
 have hlen := (perm_sortSP h.small).length_eq
 unfold f_u109
 rw [e1, v1, e2, v2, Option.isSome_some, Option.isSome_some, if_pos rfl, if_pos rfl]
 exact (span_joined_l k (sortSP l) (by omega) k 0 (by omega) (by omega)).1 (0, 0) (Int.le_refl _)
theorem span_joined_v (k : Nat) (l : List Sp) (h : In 0 17179869184 l) (hl : l.length ≤ 100000) (hk : l.length < k) : v_u109 k l = nf l := by
 unfold v_u109; rw [span_joined_s k l h hl hk]; rfl

def ends2 : List Sp → List Int
 | [] => []
 | s :: t => s.1 :: s.2 :: ends2 t
theorem ends2_len : ∀ l : List Sp, (ends2 l).length = 2 * l.length
 | [] => rfl
 | s :: t => by simp only [ends2, List.length_cons, ends2_len t]; omega
theorem ends2_fst : ∀ (l : List Sp) (p : Nat), p < l.length → (ends2 l).getD (2 * p) 0 = (l.getD p (0, 0)).1
 | s :: t, 0, _ => rfl
 | s :: t, p + 1, h => by
  have := ends2_fst t p (by simpa using h)
  rw [show 2 * (p + 1) = 2 * p + 1 + 1 by omega]
  simpa [ends2] using this
theorem ends2_snd : ∀ (l : List Sp) (p : Nat), p < l.length → (ends2 l).getD (2 * p + 1) 0 = (l.getD p (0, 0)).2
 | s :: t, 0, _ => rfl
 | s :: t, p + 1, h => by
  have := ends2_snd t p (by simpa using h)
  rw [show 2 * (p + 1) + 1 = 2 * p + 1 + 1 + 1 by omega]
  simpa [ends2] using this
theorem ends2_append : ∀ (a b : List Sp), ends2 (a ++ b) = ends2 a ++ ends2 b
 | [], b => rfl
 | s :: t, b => by simp [ends2, ends2_append t b]
theorem ends2_sorted : ∀ {b : Int} {l : List Sp}, Nr b l → (ends2 l).Pairwise (fun x y => x ≤ y) ∧ ∀ x ∈ ends2 l, b ≤ x
 | _, [], _ => ⟨List.Pairwise.nil, by simp [ends2]⟩
 | b, s :: t, ⟨h1, h2, h3⟩ => by
  obtain ⟨i1, i2⟩ := ends2_sorted h3
  refine ⟨List.pairwise_cons.2 ⟨fun x hx => ?_, List.pairwise_cons.2 ⟨fun x hx => i2 x hx, i1⟩⟩, fun x hx => ?_⟩
  ·rcases List.mem_cons.1 hx with rfl | hx
   ·omega
   ·have := i2 x hx; omega
  ·rcases List.mem_cons.1 hx with rfl | hx
   ·omega
   ·rcases List.mem_cons.1 hx with rfl | hx
    ·omega
    ·have := i2 x hx; omega

theorem Nr.get : ∀ {b : Int} {l : List Sp}, Nr b l → ∀ (p : Nat), p < l.length → (l.getD p (0, 0)).1 < (l.getD p (0, 0)).2 ∧ (p + 1 < l.length → (l.getD p (0, 0)).2 < (l.getD (p + 1) (0, 0)).1)
 | _, [], _, p, h => by simp at h
 | b, s :: t, ⟨h1, h2, h3⟩, 0, h => by
  refine ⟨h2, fun h' => ?_⟩
  cases t with
  | nil => simp at h'
  | cons u v => exact h3.1
 | b, s :: t, ⟨h1, h2, h3⟩, p + 1, h => by
  have := Nr.get h3 p (by simpa using h)
  simpa using this

theorem span_sets_end (k j : Nat) (a : List Sp) (h : In 0 17179869184 a) (hn : Nr (-1) a) (hl : a.length ≤ 256) (hk : 300 ≤ k) : f_u111_28 k (j + 1) a = some (a, 0) := by
 rw [f_u111_28, span_joined_s k a h (by omega) (by omega), span_joined_v k a h (by omega) (by omega), nf_self h hn, Option.isSome_some, if_pos rfl, decide_eq_false (by omega), cond_false]

theorem span_sets18_l (k : Nat) (hk : 300 ≤ k) (a : List Sp) (h : In 0 17179869184 a) (hn : Nr (-1) a) (hl : a.length ≤ 256) : ∀ (d p : Nat) (j : Nat), a.length - p = d → p ≤ a.length → 7 * d + 2 ≤ j →
  f_u111_18 k j a [] (p : Int) 0 ((ends2 a).length : Int) ((2 * p : Nat) : Int) (ends2 a) (a.take p) = some (a, 0) := by
 intro d
 induction d with
 | zero =>
  intro p j hd hp hj
  obtain ⟨j, rfl⟩ : ∃ m, j = m + 2 := ⟨j - 2, by omega⟩
  have hpa : p = a.length := by omega
  subst hpa
  rw [f_u111_18, ends2_len, decide_eq_false (by omega), cond_false, List.take_length]
  exact span_sets_end k j a h hn hl hk
 | succ d ih =>
  intro p j hd hp hj
  obtain ⟨j, rfl⟩ : ∃ m, j = m + 7 := ⟨j - 7, by omega⟩
  have hpl : p < a.length := by omega
  have hEl := ends2_len a
  have e1 := ends2_fst a p hpl
  have e2 := ends2_snd a p hpl
  obtain ⟨n1, n2⟩ := hn.get p hpl
  have htk := take_snoc a p (0, 0) hpl
  have hd0 : T8.dflt = ((0, 0) : Sp) := rfl
  have hz : (RTy.int IntKind.i64).dflt = (0 : Int) := rfl
  generalize hs : a.getD p (0, 0) = s at *
  have b18 : f_u111_18 k (j + 7) a [] (p : Int) 0 ((ends2 a).length : Int) ((2 * p : Nat) : Int) (ends2 a) (a.take p) = f_u111_20 k (j + 6) a [] (p : Int) 0 ((2 * p : Nat) : Int) s.1 ((ends2 a).length : Int) ((2 * p : Nat) : Int) (ends2 a) (a.take p) := by
   rw [show j + 7 = (j + 6) + 1 by omega, f_u111_18, decide_eq_true (by omega), cond_true, if_pos ⟨by omega, by omega⟩, Int.toNat_natCast, hz, e1]
  have b20 : f_u111_20 k (j + 6) a [] (p : Int) 0 ((2 * p : Nat) : Int) s.1 ((ends2 a).length : Int) ((2 * p : Nat) : Int) (ends2 a) (a.take p) = f_u111_22 k (j + 5) a [] (p : Int) 0 ((2 * p : Nat) : Int) s.1 ((ends2 a).length : Int) ((2 * p : Nat) : Int) (ends2 a) (a.take p) := by
   rw [show j + 6 = (j + 5) + 1 by omega, f_u111_20, if_pos ⟨fun _ => by omega, fun _ => by omega⟩, Int.toNat_natCast, hd0, hs, decide_eq_false (by omega : ¬ s.2 ≤ s.1), Bool.and_false, cond_false]
  have b22 : f_u111_22 k (j + 5) a [] (p : Int) 0 ((2 * p : Nat) : Int) s.1 ((ends2 a).length : Int) ((2 * p : Nat) : Int) (ends2 a) (a.take p) = f_u111_18 k (j + 4) a [] (p : Int) 0 ((ends2 a).length : Int) ((2 * p + 1 : Nat) : Int) (ends2 a) (a.take (p + 1)) := by
   rw [show j + 5 = (j + 4) + 1 by omega, f_u111_22, if_pos ⟨fun e => by simp at e, fun e => by simp at e⟩, show (decide ((0 : Int) < (([] : List Sp).length : Int)) && _) = false from rfl, cond_false, wrapS (2 * p) (by omega)]
   rw [if_pos ⟨fun _ => by omega, fun _ => by omega⟩, Int.toNat_natCast, hz, e2, show ((((2 * p + 1 : Nat) : Int) == ((ends2 a).length : Int)) = false) from beqf (by omega), show (s.2 == s.1) = false from beqf (by omega), Bool.or_self, cond_false]
   rw [Int.toNat_natCast, hd0, hs, decide_eq_true (by omega : (p : Int) < (a.length : Int)), decide_eq_true (by omega : s.fst ≤ s.1), Bool.and_self]
   have ek : ∀ b, v_u107 k true b = true := fun b => rfl
   have ef : ∀ b, f_u107 k true b = some true := fun b => rfl
   rw [ek, ef, if_pos ⟨fun _ => by omega, fun _ => by omega, fun e => by simp at e, fun e => by simp at e, rfl⟩, cond_true, if_pos ⟨by omega, by omega, by rw [List.length_singleton, List.length_take]; omega⟩, htk]
  have c18 : f_u111_18 k (j + 4) a [] (p : Int) 0 ((ends2 a).length : Int) ((2 * p + 1 : Nat) : Int) (ends2 a) (a.take (p + 1)) = f_u111_20 k (j + 3) a [] (p : Int) 0 ((2 * p + 1 : Nat) : Int) s.2 ((ends2 a).length : Int) ((2 * p + 1 : Nat) : Int) (ends2 a) (a.take (p + 1)) := by
   rw [show j + 4 = (j + 3) + 1 by omega, f_u111_18, decide_eq_true (by omega), cond_true, if_pos ⟨by omega, by omega⟩, Int.toNat_natCast, hz, e2]
  have c20 : f_u111_20 k (j + 3) a [] (p : Int) 0 ((2 * p + 1 : Nat) : Int) s.2 ((ends2 a).length : Int) ((2 * p + 1 : Nat) : Int) (ends2 a) (a.take (p + 1)) = f_u111_20 k (j + 2) a [] ((p + 1 : Nat) : Int) 0 ((2 * p + 1 : Nat) : Int) s.2 ((ends2 a).length : Int) ((2 * p + 1 : Nat) : Int) (ends2 a) (a.take (p + 1)) := by
   rw [show j + 3 = (j + 2) + 1 by omega, f_u111_20, if_pos ⟨fun _ => by omega, fun _ => by omega⟩, Int.toNat_natCast, hd0, hs, decide_eq_true (by omega : s.snd ≤ s.2), decide_eq_true (by omega : (p : Int) < (a.length : Int)), Bool.and_self, cond_true, wrapS p (by omega)]
  by_cases hlast : p + 1 < a.length
  ·have n2 := n2 hlast
   have e3 := ends2_fst a (p + 1) hlast
   obtain ⟨m1, _⟩ := hn.get (p + 1) hlast
   generalize hu : a.getD (p + 1) (0, 0) = u at *
   have d20 : f_u111_20 k (j + 2) a [] ((p + 1 : Nat) : Int) 0 ((2 * p + 1 : Nat) : Int) s.2 ((ends2 a).length : Int) ((2 * p + 1 : Nat) : Int) (ends2 a) (a.take (p + 1)) = f_u111_22 k (j + 1) a [] ((p + 1 : Nat) : Int) 0 ((2 * p + 1 : Nat) : Int) s.2 ((ends2 a).length : Int) ((2 * p + 1 : Nat) : Int) (ends2 a) (a.take (p + 1)) := by
    rw [show j + 2 = (j + 1) + 1 by omega, f_u111_20, if_pos ⟨fun _ => by omega, fun _ => by omega⟩, Int.toNat_natCast, hd0, hu, decide_eq_false (by omega : ¬ u.2 ≤ s.2), Bool.and_false, cond_false]
   have d22 : f_u111_22 k (j + 1) a [] ((p + 1 : Nat) : Int) 0 ((2 * p + 1 : Nat) : Int) s.2 ((ends2 a).length : Int) ((2 * p + 1 : Nat) : Int) (ends2 a) (a.take (p + 1)) = f_u111_18 k j a [] ((p + 1 : Nat) : Int) 0 ((ends2 a).length : Int) ((2 * (p + 1) : Nat) : Int) (ends2 a) (a.take (p + 1)) := by
    rw [f_u111_22, if_pos ⟨fun e => by simp at e, fun e => by simp at e⟩, show (decide ((0 : Int) < (([] : List Sp).length : Int)) && _) = false from rfl, cond_false, wrapS (2 * p + 1) (by omega), show 2 * p + 1 + 1 = 2 * (p + 1) by omega]
    rw [if_pos ⟨fun _ => by omega, fun _ => by omega⟩, Int.toNat_natCast, hz, e3, show ((((2 * (p + 1) : Nat) : Int) == ((ends2 a).length : Int)) = false) from beqf (by omega), show (u.1 == s.2) = false from beqf (by omega), Bool.or_self, cond_false]
    rw [Int.toNat_natCast, hd0, hu, decide_eq_false (by omega : ¬ u.fst ≤ s.2), Bool.and_false]
    have ek : ∀ b, v_u107 k false b = false := fun b => rfl
    have ef : ∀ b, f_u107 k false b = some false := fun b => rfl
    rw [ek, ef, if_pos ⟨fun _ => by omega, fun _ => by omega, fun e => by simp at e, fun e => by simp at e, rfl⟩, cond_false]
   rw [b18, b20, b22, c18, c20, d20, d22]
   exact ih (p + 1) j (by omega) (by omega) (by omega)
  ·have hpa : p + 1 = a.length := by omega
   have d20 : f_u111_20 k (j + 2) a [] ((p + 1 : Nat) : Int) 0 ((2 * p + 1 : Nat) : Int) s.2 ((ends2 a).length : Int) ((2 * p + 1 : Nat) : Int) (ends2 a) (a.take (p + 1)) = f_u111_22 k (j + 1) a [] ((p + 1 : Nat) : Int) 0 ((2 * p + 1 : Nat) : Int) s.2 ((ends2 a).length : Int) ((2 * p + 1 : Nat) : Int) (ends2 a) (a.take (p + 1)) := by
    rw [show j + 2 = (j + 1) + 1 by omega, f_u111_20, if_pos ⟨fun _ => by omega, fun e => of_decide_eq_true e⟩, decide_eq_false (by omega : ¬ ((p + 1 : Nat) : Int) < (a.length : Int)), Bool.false_and, cond_false]
   have d22 : f_u111_22 k (j + 1) a [] ((p + 1 : Nat) : Int) 0 ((2 * p + 1 : Nat) : Int) s.2 ((ends2 a).length : Int) ((2 * p + 1 : Nat) : Int) (ends2 a) (a.take (p + 1)) = f_u111_18 k j a [] ((p + 1 : Nat) : Int) 0 ((ends2 a).length : Int) ((2 * (p + 1) : Nat) : Int) (ends2 a) (a.take (p + 1)) := by
    rw [f_u111_22, if_pos ⟨fun e => by simp at e, fun e => by simp at e⟩, show (decide ((0 : Int) < (([] : List Sp).length : Int)) && _) = false from rfl, cond_false, wrapS (2 * p + 1) (by omega), show 2 * p + 1 + 1 = 2 * (p + 1) by omega]
    have hq : (((2 * (p + 1) : Nat) : Int) == ((ends2 a).length : Int)) = true := by simp only [beq_iff_eq]; omega
    rw [hq, if_pos (show (true = false → (0 : Int) ≤ ((2 * (p + 1) : Nat) : Int)) ∧ (true = false → ((2 * (p + 1) : Nat) : Int) < ((ends2 a).length : Int)) from ⟨fun e => (by cases e), fun e => (by cases e)⟩), Bool.true_or, cond_true]
   rw [b18, b20, b22, c18, c20, d20, d22]
   exact ih (p + 1) j (by omega) (by omega) (by omega)

theorem span_concat_s (k : Nat) (hk : 10 ≤ k) (a : List Sp) (hl : a.length ≤ 1000) : f_u98 k [a, []] = some a := by
 obtain ⟨k, rfl⟩ : ∃ m, k = m + 10 := ⟨k - 10, by omega⟩
 have hg : f_u99 (k + 10) (a.length : Int) = some [] := by
  unfold f_u99; rw [if_pos ⟨by omega, by omega⟩]
 have hv : v_u99 (k + 10) (a.length : Int) = [] := by unfold v_u99; rw [hg]; rfl
 have L2 : (([a, []] : List (List Sp)).length : Int) = 2 := rfl
 unfold f_u98
 rw [L2]
 rw [f_u98_3, L2, decide_eq_true (by omega), cond_true, if_pos (show (0 : Int) ≤ 0 ∧ (0 : Int) < 2 from ⟨by omega, by omega⟩)]
 show (bif decide (i64.wrap (0 + (a.length : Int)) < 0) then none else f_u98_3 (k + 10) (k + 9) [a, []] (i64.wrap (0 + (a.length : Int))) [a, []] 2 (i64.wrap (0 + 1))) = _
 rw [wrap_id (i := 0 + (a.length : Int)) (by omega) (by omega), Int.zero_add, decide_eq_false (by omega), cond_false, show i64.wrap (0 + 1) = 1 from wrapS 0 (by omega)]
 rw [f_u98_3, L2, decide_eq_true (by omega), cond_true, if_pos (show (0 : Int) ≤ 1 ∧ (1 : Int) < 2 from ⟨by omega, by omega⟩)]
 show (bif decide (i64.wrap ((a.length : Int) + (0 : Int)) < 0) then none else f_u98_3 (k + 10) (k + 8) [a, []] (i64.wrap ((a.length : Int) + (0 : Int))) [a, []] 2 (i64.wrap (1 + 1))) = _
 rw [wrap_id (i := (a.length : Int) + (0 : Int)) (by omega) (by omega), Int.add_zero, decide_eq_false (by omega), cond_false, show i64.wrap (1 + 1) = 2 from wrapS 1 (by omega)]
 rw [f_u98_3, decide_eq_false (by omega), cond_false, hg, hv, Option.isSome_some, if_pos rfl]
 rw [L2, f_u98_11, L2, decide_eq_true (by omega), cond_true, if_pos (show (0 : Int) ≤ 0 ∧ (0 : Int) < 2 from ⟨by omega, by omega⟩)]
 show (if (([] : List Sp).length + a.length) * 16 ≤ 140737488355328 then f_u98_11 (k + 10) (k + 6) [a, []] 2 (i64.wrap (0 + 1)) ([] ++ a) else none) = _
 rw [if_pos (show (([] : List Sp).length + a.length) * 16 ≤ 140737488355328 by rw [List.length_nil]; omega), show i64.wrap (0 + 1) = 1 from wrapS 0 (by omega)]
 rw [f_u98_11, L2, decide_eq_true (by omega), cond_true, if_pos (show (0 : Int) ≤ 1 ∧ (1 : Int) < 2 from ⟨by omega, by omega⟩)]
 show (if (([] ++ a : List Sp).length + ([] : List Sp).length) * 16 ≤ 140737488355328 then f_u98_11 (k + 10) (k + 5) [a, []] 2 (i64.wrap (1 + 1)) ([] ++ a ++ []) else none) = _
 rw [if_pos (show (([] ++ a : List Sp).length + ([] : List Sp).length) * 16 ≤ 140737488355328 by rw [List.length_nil, List.nil_append]; omega), show i64.wrap (1 + 1) = 2 from wrapS 1 (by omega)]
 rw [f_u98_11, decide_eq_false (by omega), cond_false]
 show some ([] ++ a ++ []) = some a
 simp

theorem span_sets10_l (k : Nat) (hk : 300 ≤ k) (a : List Sp) (h : In 0 17179869184 a) (hn : Nr (-1) a) (hl : a.length ≤ 256) : ∀ (j i : Nat), i ≤ a.length → (a.length - i) + (7 * a.length + 3) ≤ j →
  f_u111_10 k j a [] (a.length : Int) (i : Int) (ends2 (a.take i)) a = some (a, 0) := by
 intro j
 induction j with
 | zero => intros; omega
 | succ j ih =>
  intro i hi hj
  rw [f_u111_10]
  by_cases h' : i < a.length
  ·rw [decide_eq_true (by omega : (i : Int) < (a.length : Int)), cond_true, if_pos ⟨by omega, by omega⟩, Int.toNat_natCast, if_pos (by rw [ends2_len, List.length_take]; show (2 * min i a.length + 2) * 8 ≤ _; omega), wrapS i (by omega)]
   have := ih (i + 1) (by omega) (by omega)
   rw [take_snoc a i (0, 0) h', ends2_append] at this
   exact this
  ·have hs : f_u101 k (ends2 a) = some (ends2 a) := by
    unfold f_u101
    rw [if_pos (by rw [ends2_len]; omega), List.mergeSort_of_pairwise]
    exact (ends2_sorted hn).1.imp fun h => decide_eq_true h
   have hv : v_u101 k (ends2 a) = ends2 a := by unfold v_u101; rw [hs]; rfl
   rw [decide_eq_false (by omega : ¬ (i : Int) < (a.length : Int)), cond_false, List.take_of_length_le (by omega), hs, hv, Option.isSome_some, if_pos rfl]
   exact span_sets18_l k hk a h hn hl a.length 0 j (by omega) (by omega) (by omega)

theorem span_Norm_s (k : Nat) (hk : 2100 ≤ k) (l : List Sp) : f_u106 k l = some (normS l) := by
 have e : f_u111 k l [] = some (normS l) := by
  unfold f_u111 normS
  rw [span_Check_s k (by omega), span_Check_v k (by omega), span_Check_s k (by omega), span_Check_v k (by omega), Option.isSome_some, if_pos rfl]
  by_cases h1 : chkS l = 0
  ·obtain ⟨l1, l2⟩ := chkS_zero.1 h1
   have hnl := nf_len l2
   have h0 : In 0 17179869184 ([] : List Sp) := trivial
   rw [show (chkS l != 0) = false by simp [h1], cond_false, if_neg (fun h : chkS l ≠ 0 => h h1), Option.isSome_some, if_pos rfl, show (chkS [] != 0) = false from rfl, cond_false]
   rw [span_joined_s k l l2 (by omega) (by omega), span_joined_v k l l2 (by omega) (by omega), span_joined_s k [] h0 (by simp) (by simp; omega), span_joined_v k [] h0 (by simp) (by simp; omega), nf_self h0 trivial, if_pos ⟨rfl, rfl⟩]
   have hc := span_concat_s k (by omega) (nf l) (by omega)
   have hv : v_u98 k [nf l, []] = nf l := by unfold v_u98; rw [hc]; rfl
   rw [hc, hv, Option.isSome_some, if_pos rfl]
   exact span_sets10_l k (by omega) (nf l) (nf_in l2) (nf_nr l2) (by omega) k 0 (by omega) (by omega)
  ·rw [show (chkS l != 0) = true by simp [h1], cond_true, if_pos h1]
 have ev : v_u111 k l [] = normS l := by unfold v_u111; rw [e]; rfl
 unfold f_u106
 rw [e, ev]; rfl
theorem span_Norm_v (k : Nat) (hk : 2100 ≤ k) (l : List Sp) : v_u106 k l = normS l := by
 unfold v_u106; rw [span_Norm_s k hk]; rfl

theorem span_Total_l (k : Nat) (a : List Sp) (h : In 0 17179869184 a) (hl : a.length ≤ 256) : ∀ (j i : Nat) (n : Int), i ≤ a.length → a.length - i < j → 0 ≤ n → n ≤ (i : Int) * 17179869184 →
  f_u108_6 k j n a (a.length : Int) (i : Int) = some (n + tot (a.drop i), 0) := by
 intro j
 induction j with
 | zero => intros; omega
 | succ j ih =>
  intro i n hi hj h0 h1
  rw [f_u108_6]
  by_cases h' : i < a.length
  ·have hm := h.mem (a.getD i T8.dflt) (by simp [h'])
   rw [decide_eq_true (by omega : (i : Int) < (a.length : Int)), cond_true, if_pos ⟨by omega, by omega⟩, drop_cons' a i T8.dflt h', Int.toNat_natCast]
   generalize a.getD i T8.dflt = s at hm
   rw [wrap_id (i := s.snd - s.fst) (by omega) (by omega), wrap_id (i := n + (s.snd - s.fst)) (by omega) (by omega), wrapS i (by omega), ih (i + 1) _ (by omega) (by omega) (by omega) (by omega), tot, Int.add_assoc]
  ·rw [decide_eq_false (by omega : ¬ (i : Int) < (a.length : Int)), cond_false, drop_all a i (by omega)]
   simp [tot]
theorem span_Total_s (k : Nat) (hk : 300 ≤ k) (l : List Sp) : f_u108 k l = some (totalS l) := by
 unfold f_u108 totalS
 rw [span_Check_s k (by omega), span_Check_v k (by omega), Option.isSome_some, if_pos rfl]
 by_cases h1 : chkS l = 0
 ·obtain ⟨l1, l2⟩ := chkS_zero.1 h1
  have hnl := nf_len l2
  rw [show (chkS l != 0) = false by simp [h1], cond_false, if_neg (fun h : chkS l ≠ 0 => h h1), span_joined_s k l l2 (by omega) (by omega), span_joined_v k l l2 (by omega) (by omega), Option.isSome_some, if_pos rfl]
  have := span_Total_l k (nf l) (nf_in l2) (by omega) k 0 0 (by omega) (by omega) (by omega) (by omega)
  rw [Int.zero_add] at this
  exact this
 ·rw [show (chkS l != 0) = true by simp [h1], cond_true, if_pos h1]
theorem span_Total_v (k : Nat) (hk : 300 ≤ k) (l : List Sp) : v_u108 k l = totalS l := by
 unfold v_u108; rw [span_Total_s k hk]; rfl
end Go.AM
namespace Go.AM
open Go Go.Proofs Go.IntKind

theorem ref04_Check_l (k : Nat) (l : List Sp) (hl : l.length ≤ 256) : ∀ (j i : Nat), i ≤ l.length → l.length - i < j →
  f_u59_4 k j l (i : Int) = some (if (l.drop i).all (fun s => decide (0 ≤ s.1 ∧ s.1 ≤ s.2 ∧ s.2 ≤ 17179869184)) = true then 0 else 1) := by
 intro j
 induction j with
 | zero => intros; omega
 | succ j ih =>
  intro i hi hj
  rw [f_u59_4]
  by_cases h : i < l.length
  ·rw [decide_eq_true (by omega : (i : Int) < (l.length : Int)), cond_true, if_pos (by (repeat' apply And.intro) <;> (intros; omega)), drop_cons' l i T8.dflt h, Int.toNat_natCast, List.all_cons]
   generalize l.getD i T8.dflt = s
   by_cases hs : 0 ≤ s.1 ∧ s.1 ≤ s.2 ∧ s.2 ≤ 17179869184
   ·rw [decide_eq_false (by omega : ¬ s.fst < 0), decide_eq_false (by omega : ¬ s.fst > s.snd), decide_eq_false (by omega : ¬ s.snd > 17179869184), Bool.or_self, Bool.or_self, cond_false, wrapS i (by omega), ih (i + 1) (by omega) (by omega), decide_eq_true hs, Bool.true_and]
   ·have : (decide (s.fst < 0) || decide (s.fst > s.snd) || decide (s.snd > 17179869184)) = true := by
     by_cases a : s.fst < 0
     ·rw [decide_eq_true a]; rfl
     ·by_cases b : s.fst > s.snd
      ·rw [decide_eq_true b, Bool.or_true]; rfl
      ·rw [decide_eq_true (by omega : s.snd > 17179869184), Bool.or_true]
    rw [this, cond_true, decide_eq_false hs, Bool.false_and, if_neg (by decide)]
  ·rw [decide_eq_false (by omega : ¬ (i : Int) < (l.length : Int)), cond_false, drop_all l i (by omega)]
   rfl
theorem ref04_Check_s (k : Nat) (hk : 300 ≤ k) (l : List Sp) : f_u59 k l = some (chkS l) := by
 unfold f_u59 chkS
 by_cases h : l.length > 256
 ·rw [decide_eq_true (by omega : (l.length : Int) > 256), cond_true, if_pos h]
 ·rw [decide_eq_false (by omega : ¬ (l.length : Int) > 256), cond_false, if_neg h]
  exact ref04_Check_l k l (by omega) k 0 (by omega) (by omega)
theorem ref04_Check_v (k : Nat) (hk : 300 ≤ k) (l : List Sp) : v_u59 k l = chkS l := by
 unfold v_u59; rw [ref04_Check_s k hk]; rfl

theorem ref04_with_l (k : Nat) (l : List Int) (hl : l.length ≤ 10000) (n : Int) : ∀ (j i : Nat), i ≤ l.length → l.length - i < j →
  f_u66_2 k j l n (i : Int) = some (l.take i ++ ins (l.drop i) n) := by
 intro j
 induction j with
 | zero => intros; omega
 | succ j ih =>
  intro i hi hj
  have hz : I.dflt = (0 : Int) := rfl
  have tk : ([] ++ List.take ((i : Int).toNat - Int.toNat 0) (List.drop (Int.toNat 0) l) : List Int) = l.take i := by
   rw [Int.toNat_natCast, show Int.toNat 0 = 0 from rfl]; simp
  have dk : List.take ((l.length : Int).toNat - (i : Int).toNat) (List.drop (i : Int).toNat l) = l.drop i := by
   rw [Int.toNat_natCast, Int.toNat_natCast]; exact List.take_of_length_le (by rw [List.length_drop]; omega)
  rw [f_u66_2]
  rw [if_pos (show (decide ((i : Int) < (l.length : Int)) = true → (0 : Int) ≤ (i : Int)) ∧ (decide ((i : Int) < (l.length : Int)) = true → (i : Int) < (l.length : Int)) from ⟨fun _ => by omega, fun e => of_decide_eq_true e⟩)]
  have fin : (if ((0 : Int) ≤ (0 : Int)) ∧ ((0 : Int) ≤ (i : Int)) ∧ ((i : Int) ≤ (l.length : Int)) ∧ (((0 : Nat) + (List.take ((i : Int).toNat - Int.toNat (0 : Int)) (List.drop (Int.toNat (0 : Int)) l)).length) * (8 : Nat) ≤ (140737488355328 : Nat)) then
       if ((([] ++ List.take ((i : Int).toNat - Int.toNat (0 : Int)) (List.drop (Int.toNat (0 : Int)) l)).length + [n].length) * (8 : Nat) ≤ (140737488355328 : Nat)) then
        if ((0 : Int) ≤ (i : Int)) ∧ ((i : Int) ≤ (l.length : Int)) ∧ ((l.length : Int) ≤ (l.length : Int)) ∧ ((([] ++ List.take ((i : Int).toNat - Int.toNat (0 : Int)) (List.drop (Int.toNat (0 : Int)) l) ++ [n]).length + (List.take ((l.length : Int).toNat - (i : Int).toNat) (List.drop (i : Int).toNat l)).length) * (8 : Nat) ≤ (140737488355328 : Nat)) then
         some ([] ++ List.take ((i : Int).toNat - Int.toNat 0) (List.drop (Int.toNat 0) l) ++ [n] ++ List.take ((l.length : Int).toNat - (i : Int).toNat) (List.drop (i : Int).toNat l))
        else none
       else none
      else none) = some (l.take i ++ [n] ++ l.drop i) := by
   have e0 : List.take ((i : Int).toNat - Int.toNat 0) (List.drop (Int.toNat 0) l) = l.take i := by rw [← tk]; rfl
   rw [dk, e0, List.nil_append]
   rw [if_pos ⟨by omega, by omega, by omega, by rw [List.length_take]; omega⟩, if_pos (by rw [List.length_take, List.length_singleton]; omega), if_pos ⟨by omega, by omega, by omega, by rw [List.length_append, List.length_take, List.length_singleton, List.length_drop]; omega⟩]
  rw [fin]
  by_cases h : i < l.length
  ·rw [decide_eq_true (by omega : (i : Int) < (l.length : Int)), Bool.true_and, Bool.true_and, if_pos ⟨fun _ => by omega, fun _ => by omega⟩, Int.toNat_natCast, hz, drop_cons' l i 0 h, ins]
   by_cases h1 : l.getD i 0 < n
   ·rw [decide_eq_true h1, cond_true, if_pos h1, wrapS i (by omega), ih (i + 1) (by omega) (by omega), take_snoc l i 0 h]
    simp
   ·rw [decide_eq_false h1, cond_false, if_neg h1]
    by_cases h2 : l.getD i 0 = n
    ·rw [show (l.getD i 0 == n) = true from beq_iff_eq.2 h2, cond_true, if_pos h2, ← drop_cons' l i 0 h, List.take_append_drop]
    ·rw [show (l.getD i 0 == n) = false from beqf h2, cond_false, if_neg h2]
     simp
  ·rw [decide_eq_false (by omega : ¬ (i : Int) < (l.length : Int)), Bool.false_and, Bool.false_and, cond_false, if_pos ⟨fun e => (by cases e), fun e => (by cases e)⟩, cond_false, drop_all l i (by omega)]
   simp [ins]
theorem ref04_with_s (k : Nat) (l : List Int) (hl : l.length ≤ 10000) (hk : l.length < k) (n : Int) : f_u66 k l n = some (ins l n) := ref04_with_l k l hl n k 0 (by omega) (by omega)
theorem ref04_with_v (k : Nat) (l : List Int) (hl : l.length ≤ 10000) (hk : l.length < k) (n : Int) : v_u66 k l n = ins l n := by
 unfold v_u66; rw [ref04_with_s k l hl hk]; rfl

theorem ref04_ends_l (k : Nat) (hk : 2000 ≤ k) (a : List Sp) (hl : a.length ≤ 256) : ∀ (j i : Nat) (acc : List Int), i ≤ a.length → a.length - i + 1 < j → acc.length ≤ 2 * i →
  f_u65_3 k j a [] acc (i : Int) = some (cutsF acc (a.drop i)) := by
 intro j
 induction j with
 | zero => intros; omega
 | succ j ih =>
  intro i acc hi hj ha
  rw [f_u65_3]
  by_cases h : i < a.length
  ·rw [decide_eq_true (by omega : (i : Int) < (a.length : Int)), cond_true, drop_cons' a i T8.dflt h, Int.toNat_natCast, cutsF]
   generalize a.getD i T8.dflt = s
   have h1 := ins_len acc s.1
   have h2 := ins_len (ins acc s.1) s.2
   rw [ref04_with_s k acc (by omega) (by omega), ref04_with_v k acc (by omega) (by omega), ref04_with_s k (ins acc s.fst) (by omega) (by omega), ref04_with_v k (ins acc s.fst) (by omega) (by omega), if_pos ⟨by omega, by omega, rfl, by omega, by omega, rfl⟩, wrapS i (by omega)]
   exact ih (i + 1) _ (by omega) (by omega) (by omega)
  ·obtain ⟨j, rfl⟩ : ∃ m, j = m + 1 := ⟨j - 1, by omega⟩
   rw [decide_eq_false (by omega : ¬ (i : Int) < (a.length : Int)), cond_false, drop_all a i (by omega), f_u65_7]
   rfl
theorem ref04_ends_s (k : Nat) (hk : 2000 ≤ k) (a : List Sp) (hl : a.length ≤ 256) : f_u65 k a [] = some (cutsF [] a) := ref04_ends_l k hk a hl k 0 [] (by omega) (by omega) (by simp)
theorem ref04_ends_v (k : Nat) (hk : 2000 ≤ k) (a : List Sp) (hl : a.length ≤ 256) : v_u65 k a [] = cutsF [] a := by
 unfold v_u65; rw [ref04_ends_s k hk a hl]; rfl

theorem ref04_Has_l (k : Nat) (a : List Sp) (hl : a.length ≤ 10000) (x : Int) : ∀ (j i : Nat), i ≤ a.length → a.length - i < j →
  f_u60_2 k j a x (i : Int) = some (hasB (a.drop i) x) := by
 intro j
 induction j with
 | zero => intros; omega
 | succ j ih =>
  intro i hi hj
  rw [f_u60_2]
  by_cases h : i < a.length
  ·rw [decide_eq_true (by omega : (i : Int) < (a.length : Int)), cond_true, if_pos ⟨by omega, by omega, fun _ => by omega, fun _ => by omega⟩, drop_cons' a i T8.dflt h, Int.toNat_natCast]
   generalize a.getD i T8.dflt = s
   show _ = some ((decide (s.1 ≤ x) && decide (x < s.2)) || hasB (a.drop (i + 1)) x)
   cases hc : (decide (s.fst ≤ x) && decide (x < s.snd))
   ·rw [cond_false, Bool.false_or, wrapS i (by omega)]
    exact ih (i + 1) (by omega) (by omega)
   ·rw [cond_true, Bool.true_or]
  ·rw [decide_eq_false (by omega : ¬ (i : Int) < (a.length : Int)), cond_false, drop_all a i (by omega)]
   rfl
theorem ref04_Has_s (k : Nat) (a : List Sp) (hl : a.length ≤ 10000) (hk : a.length < k) (x : Int) : f_u60 k a x = some (hasB a x) := ref04_Has_l k a hl x k 0 (by omega) (by omega)
theorem ref04_Has_v (k : Nat) (a : List Sp) (hl : a.length ≤ 10000) (hk : a.length < k) (x : Int) : v_u60 k a x = hasB a x := by
 unfold v_u60; rw [ref04_Has_s k a hl hk]; rfl

theorem ref04_combine_l (k : Nat) (hk : 300 ≤ k) (a : List Sp) (hl : a.length ≤ 256) (c : List Int) (hc : c.length ≤ 10000) : ∀ (j i : Nat), i ≤ c.length → c.length - i < j →
  f_u64_4 k j a [] 0 c (i : Int) [] = some (cmb0 a (c.drop i)) ∧
  ∀ (pre : List Sp) (l : Sp), pre.length ≤ i → f_u64_4 k j a [] 0 c (i : Int) (pre ++ [l]) = some (pre ++ cmb1 a l (c.drop i)) := by
 intro j
 induction j with
 | zero => intros; omega
 | succ j ih =>
  intro i hi hj
  have hz : I.dflt = (0 : Int) := rfl
  by_cases h : i + 1 < c.length
  ·obtain ⟨ih1, ih2⟩ := ih (i + 1) (by omega) (by omega)
   have hd1 := drop_cons' c i 0 (by omega)
   have hd2 := drop_cons' c (i + 1) 0 h
   rw [hd2] at hd1 ih1 ih2
   generalize hx : c.getD i 0 = x at *
   generalize hy : c.getD (i + 1) 0 = y at *
   have hskip : ∀ b : Bool, ((0 : Int) == 0 && !b && !false || (0 : Int) == 1 && !(b && false) || (0 : Int) == 2 && (!b || false)) = !b := fun b => by cases b <;> rfl
   have hno : hasB ([] : List Sp) x = false := rfl
   refine ⟨?_, fun pre l hp => ?_⟩
   ·rw [f_u64_4, wrapS i (by omega), decide_eq_true (by omega), cond_true, Int.toNat_natCast, Int.toNat_natCast, hz, hx, hy, ref04_Has_s k a (by omega) (by omega), ref04_Has_v k a (by omega) (by omega), ref04_Has_s k [] (by simp) (by simp; omega), ref04_Has_v k [] (by simp) (by simp; omega), hno, if_pos ⟨by omega, by omega, rfl, by omega, by omega, rfl⟩, hskip, hd1, cmb0]
    cases hb : hasB a x
    ·rw [Bool.not_false, cond_true, if_neg (by decide)]; exact ih1
    ·rw [Bool.not_true, cond_false, if_pos rfl]
     have hm : i64.wrap ((([] : List Sp).length : Int) - 1) = -1 := by rw [List.length_nil, wrap_id (by omega) (by omega)]; rfl
     rw [hm, if_pos (show (decide ((-1 : Int) ≥ 0) = true → (0 : Int) ≤ -1) ∧ (decide ((-1 : Int) ≥ 0) = true → (-1 : Int) < (([] : List Sp).length : Int)) ∧ (decide ((-1 : Int) ≥ 0) = true → (0 : Int) ≤ (i : Int)) ∧ (decide ((-1 : Int) ≥ 0) = true → (i : Int) < (c.length : Int)) from ⟨fun e => (by cases e), fun e => (by cases e), fun e => (by cases e), fun e => (by cases e)⟩), show decide ((-1 : Int) ≥ 0) = false from rfl, Bool.false_and, cond_false]
     rw [if_pos ⟨by omega, by omega, by omega, by omega, by simp⟩, List.nil_append]
     have := ih2 [] (x, y) (by simp)
     simpa using this
   ·have hlen : (pre ++ [l]).length = pre.length + 1 := by simp
    have hidx : (0 : Int) ≤ i64.wrap (((pre ++ [l]).length : Int) - 1) ∧ i64.wrap (((pre ++ [l]).length : Int) - 1) < ((pre ++ [l]).length : Int) := by
     rw [hlen, wrap_id (by omega) (by omega)]; exact ⟨by omega, by omega⟩
    rw [f_u64_4, wrapS i (by omega), decide_eq_true (by omega), cond_true, Int.toNat_natCast, Int.toNat_natCast, hz, hx, hy, ref04_Has_s k a (by omega) (by omega), ref04_Has_v k a (by omega) (by omega), ref04_Has_s k [] (by simp) (by simp; omega), ref04_Has_v k [] (by simp) (by simp; omega), hno, if_pos ⟨by omega, by omega, rfl, by omega, by omega, rfl⟩, hskip, hd1, cmb1]
    cases hb : hasB a x
    ·rw [Bool.not_false, cond_true, if_neg (by decide)]; exact ih2 pre l (by omega)
    ·rw [Bool.not_true, cond_false, if_pos rfl, decide_eq_true hidx.1, Bool.true_and, last_idxS pre l (by omega), last_getS, last_setS]
     rw [if_pos ⟨fun _ => hidx.1, fun _ => hidx.2, fun _ => by omega, fun _ => by omega⟩]
     by_cases hq : l.2 = x
     ·rw [show (l.snd == x) = true by simp [hq], cond_true, if_pos ⟨by omega, by omega, hidx.1, hidx.2⟩, if_pos hq]
      exact ih2 pre (l.1, y) (by omega)
     ·rw [show (l.snd == x) = false from beqf hq, cond_false, if_pos ⟨by omega, by omega, by omega, by omega, by rw [hlen, List.length_singleton]; omega⟩, if_neg hq]
      rw [ih2 (pre ++ [l]) (x, y) (by simp; omega)]
      simp
  ·have hstop : decide (i64.wrap ((i : Int) + 1) < (c.length : Int)) = false := by rw [wrapS i (by omega)]; exact decide_eq_false (by omega)
   have hd : c.drop i = [] ∨ ∃ x, c.drop i = [x] := by
    by_cases h2 : i < c.length
    ·right
     rw [drop_cons' c i 0 h2, drop_all c (i + 1) (by omega)]
     exact ⟨_, rfl⟩
    ·left; exact drop_all c i (by omega)
   refine ⟨?_, fun pre l hp => ?_⟩
   ·rw [f_u64_4, hstop, cond_false]
    rcases hd with e | ⟨x, e⟩ <;> rw [e] <;> rfl
   ·rw [f_u64_4, hstop, cond_false]
    rcases hd with e | ⟨x, e⟩ <;> rw [e] <;> rfl

theorem ref04_Norm_s (k : Nat) (hk : 2000 ≤ k) (l : List Sp) : f_u61 k l = some (normS l) := by
 have e : f_u63 k l [] 0 = some (normS l) := by
  unfold f_u63 normS
  rw [ref04_Check_s k (by omega), ref04_Check_v k (by omega), ref04_Check_s k (by omega), ref04_Check_v k (by omega), Option.isSome_some, if_pos rfl]
  by_cases h1 : chkS l = 0
  ·obtain ⟨l1, l2⟩ := chkS_zero.1 h1
   have hnl := nf_len l2
   have hcl := cutsF_len l []
   rw [show (chkS l != 0) = false by simp [h1], cond_false, if_neg (fun h : chkS l ≠ 0 => h h1), Option.isSome_some, if_pos rfl, show (chkS [] != 0) = false from rfl, cond_false]
   have ec : f_u64 k l [] 0 = some (nf l) := by
    unfold f_u64
    rw [ref04_ends_s k hk l l1, ref04_ends_v k hk l l1, Option.isSome_some, if_pos rfl]
    have := (ref04_combine_l k (by omega) l l1 (cutsF [] l) (by simp at hcl; omega) k 0 (by omega) (by simp at hcl; omega)).1
    rw [List.drop_zero, cmb_nf l2] at this
    exact this
   have ev : v_u64 k l [] 0 = nf l := by unfold v_u64; rw [ec]; rfl
   rw [ec, ev, Option.isSome_some, if_pos rfl, decide_eq_false (by omega), cond_false]
  ·rw [show (chkS l != 0) = true by simp [h1], cond_true, if_pos h1]
 have ev : v_u63 k l [] 0 = normS l := by unfold v_u63; rw [e]; rfl
 unfold f_u61
 rw [e, ev]; rfl
theorem ref04_Norm_v (k : Nat) (hk : 2000 ≤ k) (l : List Sp) : v_u61 k l = normS l := by
 unfold v_u61; rw [ref04_Norm_s k hk]; rfl

theorem ref04_Total_l (k : Nat) (a : List Sp) (e : Int) (h : In 0 17179869184 a) (hl : a.length ≤ 256) : ∀ (j i : Nat) (n : Int), i ≤ a.length → a.length - i < j → 0 ≤ n → n ≤ (i : Int) * 17179869184 →
  f_u62_4 k j a e n (i : Int) = some (n + tot (a.drop i), e) := by
 intro j
 induction j with
 | zero => intros; omega
 | succ j ih =>
  intro i n hi hj h0 h1
  rw [f_u62_4]
  by_cases h' : i < a.length
  ·have hm := h.mem (a.getD i T8.dflt) (by simp [h'])
   rw [decide_eq_true (by omega : (i : Int) < (a.length : Int)), cond_true, if_pos ⟨by omega, by omega, by omega, by omega⟩, drop_cons' a i T8.dflt h', Int.toNat_natCast]
   generalize a.getD i T8.dflt = s at hm
   rw [wrap_id (i := n + s.snd) (by omega) (by omega), wrap_id (i := n + s.snd - s.fst) (by omega) (by omega), wrapS i (by omega), ih (i + 1) _ (by omega) (by omega) (by omega) (by omega), tot]
   congr 2; omega
  ·rw [decide_eq_false (by omega : ¬ (i : Int) < (a.length : Int)), cond_false, drop_all a i (by omega)]
   simp [tot]
theorem ref04_Total_s (k : Nat) (hk : 2000 ≤ k) (l : List Sp) : f_u62 k l = some (totalS l) := by
 unfold f_u62 totalS
 rw [ref04_Norm_s k hk, ref04_Norm_v k hk, Option.isSome_some, if_pos rfl]
 unfold normS
 by_cases h1 : chkS l = 0
 ·obtain ⟨l1, l2⟩ := chkS_zero.1 h1
  have hnl := nf_len l2
  rw [if_neg (fun h : chkS l ≠ 0 => h h1), if_neg (fun h : chkS l ≠ 0 => h h1)]
  have := ref04_Total_l k (nf l) 0 (nf_in l2) (by omega) k 0 0 (by omega) (by omega) (by omega) (by omega)
  rw [Int.zero_add] at this
  exact this
 ·rw [if_pos h1, if_pos h1]
  have := ref04_Total_l k [] (chkS l) trivial (by simp) k 0 0 (by simp) (by simp; omega) (by omega) (by omega)
  exact this
theorem ref04_Total_v (k : Nat) (hk : 2000 ≤ k) (l : List Sp) : v_u62 k l = totalS l := by
 unfold v_u62; rw [ref04_Total_s k hk]; rfl
end Go.AM
namespace Go.AM
open Go Go.IntKind

abbrev Ch := Int × Int × Bool × List Rn   -- Left, Width, Turn, Runs
abbrev Ro := Int × Int × Ch               -- ID, Parent, Cut
abbrev Pt := Int × Int × Int              -- Roll, Across, Along

def look (l : List Ro) (id : Int) : Option Ro := l.find? fun r => r.1 == id

def imageS (m : List Rn) : List Sp × Int := if chk m ≠ 0 then ([], chk m) else (nf (m.map spn), 0)
def singleS (m : List Rn) : Bool := decide (chk m = 0) && (tot (nf (m.map spn)) == lenS m)

def sizeS (l : List Ro) (W L id : Int) : Int × Int := if id = 0 then (W, L) else match look l id with
 | some r => (r.2.2.2.1, lenS r.2.2.2.2.2)
 | none => (0, 0)

def cutE (c : Ch) (w n : Int) : Int :=
 if c.1 < 0 ∨ c.2.1 < 1 ∨ c.1 > w ∨ c.2.1 > w - c.1 then 20 else if chk c.2.2.2 ≠ 0 then chk c.2.2.2 else if c.2.2.2 = [] then 10
 else if singleS c.2.2.2 = false then 12 else if fitsIn n c.2.2.2 then 0 else 21
def fitsS (p : List Ro) (W L : Int) (r : Ro) : Int :=
 if r.1 < 1 ∨ r.1 > 1000000 then 1 else if r.2.1 ≠ 0 ∧ look p r.2.1 = none then 7 else cutE r.2.2 (sizeS p W L r.2.1).1 (sizeS p W L r.2.1).2

def meetS (a b : List Rn) : Bool := a.any fun x => b.any fun y => decide (lo x ≤ hi y) && decide (lo y ≤ hi x)
def ovlS (a b : Ch) : Bool := (decide (a.1 < b.1 + b.2.1) && decide (b.1 < a.1 + a.2.1)) && meetS a.2.2.2 b.2.2.2
def clash (p : List Ro) (r : Ro) : Bool := p.any fun b => (r.2.1 == b.2.1) && ovlS r.2.2 b.2.2

def errsGo (W L : Int) : List Ro → List Ro → Int
 | _, [] => 0
 | p, r :: t => if fitsS p W L r ≠ 0 then fitsS p W L r else errsGo W L (p ++ [r]) t
def dupGo : List Ro → List Ro → Bool
 | _, [] => false
 | p, r :: t => (look p r.1).isSome || dupGo (p ++ [r]) t
def clashGo : List Ro → List Ro → Bool
 | _, [] => false
 | p, r :: t => clash p r || clashGo (p ++ [r]) t

def checkS (l : List Ro) (W L : Int) : Int :=
 if W < 1 ∨ W > 12000 ∨ L < 0 ∨ L > 17179869184 then 1 else if l.length > 512 then 8 else if errsGo W L [] l ≠ 0 then errsGo W L [] l
 else if dupGo [] l = true then 6 else if clashGo [] l = true then 12 else 0

theorem look_append (a b : List Ro) (id : Int) : look (a ++ b) id = (look a id).or (look b id) := by
 unfold look; exact List.find?_append
theorem look_some {l : List Ro} {id : Int} {r : Ro} (h : look l id = some r) : r ∈ l ∧ r.1 = id := by
 unfold look at h
 exact ⟨List.mem_of_find?_eq_some h, by have := List.find?_some h; simpa using this⟩
structure CutOk (c : Ch) (w n : Int) : Prop where
 left : 0 ≤ c.1
 width : 1 ≤ c.2.1
 right : c.1 + c.2.1 ≤ w
 chk : Chk c.2.2.2
 ne : c.2.2.2 ≠ []
 single : singleS c.2.2.2 = true
 fits : fitsIn n c.2.2.2
theorem cutE_zero {c : Ch} {w n : Int} : cutE c w n = 0 ↔ CutOk c w n := by
 unfold cutE
 constructor
 ·intro h
  by_cases h1 : c.1 < 0 ∨ c.2.1 < 1 ∨ c.1 > w ∨ c.2.1 > w - c.1
  ·rw [if_pos h1] at h; omega
  ·rw [if_neg h1] at h
   by_cases h2 : chk c.2.2.2 ≠ 0
   ·rw [if_pos h2] at h; exact absurd h h2
   ·rw [if_neg h2] at h
    by_cases h3 : c.2.2.2 = []
    ·rw [if_pos h3] at h; omega
    ·rw [if_neg h3] at h
     by_cases h4 : singleS c.2.2.2 = false
     ·rw [if_pos h4] at h; omega
     ·rw [if_neg h4] at h
      by_cases h5 : fitsIn n c.2.2.2
      ·exact ⟨by omega, by omega, by omega, chk_zero.1 (Classical.not_not.1 h2), h3, by simpa using h4, h5⟩
      ·rw [if_neg h5] at h; omega
 ·rintro ⟨h1, h2, h3, h4, h5, h6, h7⟩
  rw [if_neg (by omega), if_neg (fun h => h (chk_zero.2 h4)), if_neg h5, if_neg (by simp [h6]), if_pos h7]
structure FitOk (p : List Ro) (W L : Int) (r : Ro) : Prop where
 id0 : 1 ≤ r.1
 id1 : r.1 ≤ 1000000
 parent : r.2.1 = 0 ∨ ∃ q, look p r.2.1 = some q
 cut : CutOk r.2.2 (sizeS p W L r.2.1).1 (sizeS p W L r.2.1).2
theorem fitsS_zero {p : List Ro} {W L : Int} {r : Ro} : fitsS p W L r = 0 ↔ FitOk p W L r := by
 unfold fitsS
 constructor
 ·intro h
  by_cases h1 : r.1 < 1 ∨ r.1 > 1000000
  ·rw [if_pos h1] at h; omega
  ·rw [if_neg h1] at h
   by_cases h2 : r.2.1 ≠ 0 ∧ look p r.2.1 = none
   ·rw [if_pos h2] at h; omega
   ·rw [if_neg h2] at h
    refine ⟨by omega, by omega, ?_, cutE_zero.1 h⟩
    by_cases h3 : r.2.1 = 0
    ·exact .inl h3
    ·right
     cases h4 : look p r.2.1 with
     | none => exact absurd ⟨h3, h4⟩ h2
     | some q => exact ⟨q, rfl⟩
 ·rintro ⟨h1, h2, h3, h4⟩
  rw [if_neg (by omega), if_neg (fun h => by
   rcases h3 with h3 | ⟨q, h3⟩
   ·exact h.1 h3
   ·rw [h3] at h; cases h.2), cutE_zero.2 h4]

inductive Okp (W L : Int) : List Ro → Prop
 | nil : Okp W L []
 | snoc (p : List Ro) (r : Ro) (h : Okp W L p) (f : FitOk p W L r) (n : look p r.1 = none) (c : clash p r = false) : Okp W L (p ++ [r])
structure Reg (l : List Ro) (W L : Int) : Prop where
 w : 1 ≤ W ∧ W ≤ 12000
 len : 0 ≤ L ∧ L ≤ 17179869184
 num : l.length ≤ 512
 ok : Okp W L l
theorem okp_go {W L : Int} : ∀ (t p : List Ro), Okp W L p → errsGo W L p t = 0 → dupGo p t = false → clashGo p t = false → Okp W L (p ++ t)
 | [], p, h, _, _, _ => by simpa using h
 | r :: t, p, h, he, hd, hc => by
  rw [errsGo] at he
  rw [dupGo, Bool.or_eq_false_iff] at hd
  rw [clashGo, Bool.or_eq_false_iff] at hc
  have hf : fitsS p W L r = 0 := by
   by_cases q : fitsS p W L r = 0
   ·exact q
   ·rw [if_pos q] at he; exact absurd he q
  rw [if_neg (fun h => h hf)] at he
  have := okp_go t (p ++ [r]) (.snoc p r h (fitsS_zero.1 hf) (by cases e : look p r.1 <;> simp_all) hc.1) he hd.2 hc.2
  simpa using this
theorem go_okp {W L : Int} {l : List Ro} (h : Okp W L l) : ∀ (t p : List Ro), l = p ++ t → errsGo W L p t = 0 ∧ dupGo p t = false ∧ clashGo p t = false := by
 induction h with
 | nil =>
  intro t p e
  have : t = [] ∧ p = [] := by
   have := e.symm
   simp at this
   exact ⟨this.2, this.1⟩
  obtain ⟨rfl, rfl⟩ := this
  exact ⟨rfl, rfl, rfl⟩
 | snoc q r h f n c ih =>
  intro t p e
  rcases List.eq_nil_or_concat t with rfl | ⟨t', r', rfl⟩
  ·exact ⟨rfl, rfl, rfl⟩
  ·rw [List.concat_eq_append] at *
   rw [← List.append_assoc] at e
   obtain ⟨e1, e2⟩ := List.append_inj' e rfl
   simp only [List.cons.injEq, and_true] at e2
   subst e2
   obtain ⟨i1, i2, i3⟩ := ih t' p e1
   have key : ∀ (t' p : List Ro), errsGo W L p t' = 0 → dupGo p t' = false → clashGo p t' = false → fitsS (p ++ t') W L r = 0 → look (p ++ t') r.1 = none → clash (p ++ t') r = false → errsGo W L p (t' ++ [r]) = 0 ∧ dupGo p (t' ++ [r]) = false ∧ clashGo p (t' ++ [r]) = false := fun t' => by
    induction t' with
    | nil =>
     intro p _ _ _ a b c
     rw [List.append_nil] at a b c
     rw [List.nil_append, errsGo, dupGo, clashGo, if_neg (fun h => h a), b, c]
     exact ⟨rfl, rfl, rfl⟩
    | cons u v ih =>
     intro p a1 a2 a3 a4 a5 a6
     rw [errsGo] at a1
     rw [dupGo, Bool.or_eq_false_iff] at a2
     rw [clashGo, Bool.or_eq_false_iff] at a3
     have hf : fitsS p W L u = 0 := by
      by_cases q : fitsS p W L u = 0
      ·exact q
      ·rw [if_pos q] at a1; exact absurd a1 q
     rw [if_neg (fun h => h hf)] at a1
     have e3 : p ++ u :: v = p ++ [u] ++ v := by simp
     rw [e3] at a4 a5 a6
     obtain ⟨b1, b2, b3⟩ := ih (p ++ [u]) a1 a2.2 a3.2 a4 a5 a6
     rw [List.cons_append, errsGo, dupGo, clashGo, if_neg (fun h => h hf), a2.1, a3.1]
     exact ⟨b1, b2, b3⟩
   rw [e1] at f n c
   exact key t' p i1 i2 i3 (fitsS_zero.2 f) n c
theorem checkS_zero {l : List Ro} {W L : Int} : checkS l W L = 0 ↔ Reg l W L := by
 unfold checkS
 constructor
 ·intro h
  by_cases h1 : W < 1 ∨ W > 12000 ∨ L < 0 ∨ L > 17179869184
  ·rw [if_pos h1] at h; omega
  ·rw [if_neg h1] at h
   by_cases h2 : l.length > 512
   ·rw [if_pos h2] at h; omega
   ·rw [if_neg h2] at h
    by_cases h3 : errsGo W L [] l ≠ 0
    ·rw [if_pos h3] at h; exact absurd h h3
    ·rw [if_neg h3] at h
     by_cases h4 : dupGo [] l = true
     ·rw [if_pos h4] at h; omega
     ·rw [if_neg h4] at h
      by_cases h5 : clashGo [] l = true
      ·rw [if_pos h5] at h; omega
      ·have := okp_go l [] (W := W) (L := L) .nil (Classical.not_not.1 h3) (by simpa using h4) (by simpa using h5)
       exact ⟨by omega, by omega, by omega, by simpa using this⟩
 ·rintro ⟨h1, h2, h3, h4⟩
  obtain ⟨a, b, c⟩ := go_okp h4 l [] rfl
  rw [if_neg (by omega), if_neg (by omega), if_neg (fun h => h a), if_neg (by rw [b]; decide), if_neg (by rw [c]; decide)]
end Go.AM
namespace Go.AM
open Go Go.Proofs Go.IntKind

theorem spn_in {m : List Rn} (h : goods m) : In 0 17179869184 (m.map spn) := In.of fun s hs => by
 obtain ⟨r, hr, rfl⟩ := List.mem_map.1 hs
 obtain ⟨a, b, c, d⟩ := (h.mem r hr).lohi
 exact ⟨a, by show lo r ≤ hi r + 1; omega, by show hi r + 1 ≤ _; omega⟩
theorem normS_spn {m : List Rn} (h : Chk m) : normS (m.map spn) = (nf (m.map spn), 0) := by
 unfold normS
 rw [if_neg (fun e => e (chkS_zero.2 ⟨by rw [List.length_map]; exact h.len, spn_in h.goods⟩))]
theorem totalS_nf {m : List Rn} (h : Chk m) : totalS (nf (m.map spn)) = (tot (nf (m.map spn)), 0) := by
 have hi := spn_in h.goods
 have hl := nf_len hi
 have hm := h.len
 rw [List.length_map] at hl
 unfold totalS
 rw [if_neg (fun e => e (chkS_zero.2 ⟨by omega, nf_in hi⟩)), nf_self (nf_in hi) (nf_nr hi)]

theorem iso_images_s (k : Nat) (r : Rn) (h : good r) : f_u44 k r = some (spn r) := by
 have h' := h
 obtain ⟨g1, g2, g3, g4, _⟩ := h'
 obtain ⟨l1, l2, l3, l4⟩ := h.lohi
 unfold f_u44
 rw [wrap_id (i := r.snd.fst - 1) (by omega) (by omega), iso_image_s k r _ (by omega) (by omega) (by omega) (by omega), iso_image_v k r _ (by omega) (by omega) (by omega) (by omega), max_ends h, min_ends h, wrap_id (by omega) (by omega)]
 rfl
theorem iso_images_v (k : Nat) (r : Rn) (h : good r) : v_u44 k r = spn r := by
 unfold v_u44; rw [iso_images_s k r h]; rfl

theorem iso_Image_l (k : Nat) (hk : 2100 ≤ k) (m : List Rn) (hc : Chk m) : ∀ (j i : Nat), i ≤ m.length → m.length - i + 1 < j →
  f_u35_6 k j m (m.length : Int) (i : Int) ((m.take i).map spn) = some (nf (m.map spn), 0) := by
 have hml := hc.len
 intro j
 induction j with
 | zero => intros; omega
 | succ j ih =>
  intro i hi hj
  rw [f_u35_6]
  by_cases h : i < m.length
  ·have hgr : good (m.getD i T0.dflt) := hc.goods.mem _ (by simp [h])
   have ht := take_snoc m i T0.dflt h
   have := ih (i + 1) (by omega) (by omega)
   rw [ht, List.map_append] at this
   rw [decide_eq_true (by omega : (i : Int) < (m.length : Int)), cond_true, if_pos ⟨by omega, by omega⟩, Int.toNat_natCast, iso_images_s k _ hgr, iso_images_v k _ hgr, if_pos ⟨rfl, by rw [List.length_map, List.length_take, List.length_singleton]; omega⟩, wrapS i (by omega)]
   exact this
  ·obtain ⟨j, rfl⟩ : ∃ q, j = q + 1 := ⟨j - 1, by omega⟩
   rw [decide_eq_false (by omega : ¬ (i : Int) < (m.length : Int)), cond_false, List.take_of_length_le (by omega), f_u35_10, span_Norm_s k hk, span_Norm_v k hk, normS_spn hc]
   rfl
theorem iso_Image_s (k : Nat) (hk : 2100 ≤ k) (m : List Rn) : f_u35 k m = some (imageS m) := by
 unfold f_u35 imageS
 rw [iso_Check_s k (by omega), iso_Check_v k (by omega), Option.isSome_some, if_pos rfl]
 by_cases h1 : chk m = 0
 ·have hc := chk_zero.1 h1
  have hml := hc.len
  rw [show (chk m != 0) = false by simp [h1], cond_false, if_neg (fun h : chk m ≠ 0 => h h1)]
  exact iso_Image_l k hk m hc k 0 (by omega) (by omega)
 ·rw [show (chk m != 0) = true by simp [h1], cond_true, if_pos h1]
theorem iso_Image_v (k : Nat) (hk : 2100 ≤ k) (m : List Rn) : v_u35 k m = imageS m := by
 unfold v_u35; rw [iso_Image_s k hk]; rfl

theorem iso_Single_s (k : Nat) (hk : 2100 ≤ k) (m : List Rn) : f_u37 k m = some (singleS m) := by
 unfold f_u37 singleS
 rw [iso_Image_s k hk, iso_Image_v k hk, Option.isSome_some, if_pos rfl]
 unfold imageS
 by_cases h1 : chk m = 0
 ·have hc := chk_zero.1 h1
  have hml := hc.len
  rw [if_neg (fun h : chk m ≠ 0 => h h1), decide_eq_true h1, Bool.true_and]
  show (bif (0 : Int) != 0 then _ else _) = _
  rw [show ((0 : Int) != 0) = false from rfl, cond_false]
  show (if (f_u108 k (nf (m.map spn))).isSome = true then _ else none) = _
  rw [span_Total_s k (by omega)]
  show (bif ((v_u108 k (nf (m.map spn))).snd == 0) then _ else _) = _
  rw [span_Total_v k (by omega), totalS_nf hc, iso_length_s k m hc.goods (by omega) (by omega), iso_length_v k m hc.goods (by omega) (by omega)]
  rfl
 ·rw [if_pos h1, decide_eq_false h1, Bool.false_and]
  show (bif chk m != 0 then some false else _) = _
  rw [show (chk m != 0) = true by simp [h1], cond_true]
theorem iso_Single_v (k : Nat) (hk : 2100 ≤ k) (m : List Rn) : v_u37 k m = singleS m := by
 unfold v_u37; rw [iso_Single_s k hk]; rfl

theorem ref13_Image_l (k : Nat) (hk : 2100 ≤ k) (m : List Rn) (hc : Chk m) : ∀ (j i : Nat), i ≤ m.length → m.length - i + 1 < j →
  f_u70_6 k j m (i : Int) ((m.take i).map spn) = some (nf (m.map spn), 0) := by
 have hml := hc.len
 intro j
 induction j with
 | zero => intros; omega
 | succ j ih =>
  intro i hi hj
  rw [f_u70_6]
  by_cases h : i < m.length
  ·have hgr : good (m.getD i T0.dflt) := hc.goods.mem _ (by simp [h])
   have ht := take_snoc m i T0.dflt h
   have := ih (i + 1) (by omega) (by omega)
   rw [ht, List.map_append] at this
   rw [decide_eq_true (by omega : (i : Int) < (m.length : Int)), cond_true, Int.toNat_natCast]
   generalize m.getD i T0.dflt = r at hgr this
   have h' := hgr
   obtain ⟨g1, g2, g3, g4, _⟩ := h'
   obtain ⟨l1, l2, l3, l4⟩ := hgr.lohi
   rw [wrap_id (i := r.snd.fst - 1) (by omega) (by omega), ref13_image_s k r _ (by omega) (by omega) (by omega) (by omega), ref13_image_v k r _ (by omega) (by omega) (by omega) (by omega), max_ends hgr, min_ends hgr, wrap_id (i := Go.AM.hi r + 1) (by omega) (by omega), if_pos ⟨by omega, by omega, by omega, by omega, by omega, by omega, rfl⟩, if_pos (by rw [List.length_map, List.length_take, List.length_singleton]; omega), wrapS i (by omega)]
   exact this
  ·obtain ⟨j, rfl⟩ : ∃ q, j = q + 1 := ⟨j - 1, by omega⟩
   rw [decide_eq_false (by omega : ¬ (i : Int) < (m.length : Int)), cond_false, List.take_of_length_le (by omega), f_u70_10, ref04_Norm_s k (by omega), ref04_Norm_v k (by omega), normS_spn hc]
   rfl
theorem ref13_Image_s (k : Nat) (hk : 2100 ≤ k) (m : List Rn) : f_u70 k m = some (imageS m) := by
 unfold f_u70 imageS
 rw [ref13_Check_s k (by omega), ref13_Check_v k (by omega), Option.isSome_some, if_pos rfl]
 by_cases h1 : chk m = 0
 ·have hc := chk_zero.1 h1
  have hml := hc.len
  rw [show (chk m != 0) = false by simp [h1], cond_false, if_neg (fun h : chk m ≠ 0 => h h1)]
  exact ref13_Image_l k hk m hc k 0 (by omega) (by omega)
 ·rw [show (chk m != 0) = true by simp [h1], cond_true, if_pos h1]
theorem ref13_Image_v (k : Nat) (hk : 2100 ≤ k) (m : List Rn) : v_u70 k m = imageS m := by
 unfold v_u70; rw [ref13_Image_s k hk]; rfl
theorem ref13_Single_s (k : Nat) (hk : 2100 ≤ k) (m : List Rn) : f_u71 k m = some (singleS m) := by
 unfold f_u71 singleS
 rw [ref13_Check_s k (by omega), ref13_Check_v k (by omega), Option.isSome_some, if_pos rfl]
 by_cases h1 : chk m = 0
 ·have hc := chk_zero.1 h1
  have hml := hc.len
  rw [show (chk m != 0) = false by simp [h1], cond_false, decide_eq_true h1, Bool.true_and, ref13_Image_s k hk, ref13_Image_v k hk]
  unfold imageS
  rw [if_neg (fun h : chk m ≠ 0 => h h1), ref04_Total_s k (by omega), ref04_Total_v k (by omega), totalS_nf hc, ref13_length_s k m hc.goods (by omega) (by omega), ref13_length_v k m hc.goods (by omega) (by omega)]
  rfl
 ·rw [show (chk m != 0) = true by simp [h1], cond_true, decide_eq_false h1, Bool.false_and]
theorem ref13_Single_v (k : Nat) (hk : 2100 ≤ k) (m : List Rn) : v_u71 k m = singleS m := by
 unfold v_u71; rw [ref13_Single_s k hk]; rfl
end Go.AM
namespace Go.AM
open Go Go.Proofs Go.IntKind
set_option linter.unusedVariables false
noncomputable section
abbrev R_u12 : Type := Int × Int
def res_u12 (r : R_u12) : AV := .tup [.r (.v (.int .i64 r.1)), .r (.v (.int .i64 r.2))]
def bo_u12 (x_ : T0.T) (r : R_u12) : List (Nat × Blk) := []
def args_u12 (x_ : T0.T) : List AV := [.agg (rvs (enc T0 x_))]
def bin_u12 (x_ : T0.T) : List Blk := []
def f_u12 (k : Nat) (x_ : T0.T) : Option R_u12 :=
 bif x_.2.2 then
 some ((i64.wrap (i64.wrap (x_.1 - x_.2.1) + 1), x_.1))
 else
 some ((x_.1, i64.wrap (i64.wrap (x_.1 + x_.2.1) - 1)))
def v_u12 (k : Nat) (x_ : T0.T) : R_u12 := (f_u12 k x_).getD (0, 0)
def K_u12 (k : Nat) : Calld := ⟨fun g xs => match g with
 | _ => none, fun g xs bs => match g with
 | _ => none⟩
theorem of_u12 (k : Nat) (x_ : T0.T) (r : R_u12) (h : f_u12 k x_ = some r) : CC Tryz.prog 65 (args_u12 x_) (bin_u12 x_) (res_u12 r) (bo_u12 x_ r) := by
 refine CC.of (fn := Tryz.f65) (by kernel_rfl) (by kernel_rfl) (by kernel_rfl) (by kernel_rfl) ?_
 unfold f_u12 at h
 refine Ev.tree hm (R := Rt) (K := (K_u12 k)) (l := []) (C := []) (E := [.autoB [2, 3] true []]) (n := 1000) (T := .test (x_.2.2) (.leaf (res_u12 ((i64.wrap (i64.wrap (x_.1 - x_.2.1) + 1), x_.1))) (bo_u12 x_ ((i64.wrap (i64.wrap (x_.1 - x_.2.1) + 1), x_.1)))) (.leaf (res_u12 ((x_.1, i64.wrap (i64.wrap (x_.1 + x_.2.1) - 1)))) (bo_u12 x_ ((x_.1, i64.wrap (i64.wrap (x_.1 + x_.2.1) - 1)))))) (by kernel_rfl) ?_
 refine ⟨fun c => ?_, fun c => ?_⟩
 ·rw [cond_t (show x_.2.2 = true from c)] at h
  cases h; exact ⟨rfl, rfl⟩
 ·rw [cond_f (show x_.2.2 = false from c)] at h
  cases h; exact ⟨rfl, rfl⟩
theorem cc_u12 (k : Nat) (x_ : T0.T) (h : (f_u12 k x_).isSome = true) : CC Tryz.prog 65 (args_u12 x_) (bin_u12 x_) (res_u12 (v_u12 k x_)) (bo_u12 x_ (v_u12 k x_)) := by
 cases e : f_u12 k x_ with
 | none => rw [e] at h; cases h
 | some r => rw [show v_u12 k x_ = r by simp [v_u12, e]]; exact of_u12 k x_ r e

end
end Go.AM
namespace Go.AM
open Go Go.Proofs Go.IntKind
set_option linter.unusedVariables false
noncomputable section
abbrev R_u16 : Type := Bool
def res_u16 (r : R_u16) : AV := .r (.v (.bool r))
def bo_u16 (a_ : T1.T) (b_ : T1.T) (r : R_u16) : List (Nat × Blk) := []
def args_u16 (a_ : T1.T) (b_ : T1.T) : List AV := [.agg (rvs (enc T1 a_)), .agg (rvs (enc T1 b_))]
def bin_u16 (a_ : T1.T) (b_ : T1.T) : List Blk := []
def st_u16_4 (y0 : List (T0).T) (y1 : Int) (y2 : Int) (y3 : T1.T) : St := ⟨mkS 65 [(3, .ptr 1000000 0 0), (32, .r (.ro T0 y0)), (33, .r (.v (.int .i64 y1))), (34, .r (.v (.int .i64 y2)))], [(1000000, 0, .var 41 (rvs (enc T1 y3)))]⟩
def st_u16_8 (y0 : Int) (y1 : Int) (y2 : List (T0).T) (y3 : Int) (y4 : Int) (y5 : List (T0).T) (y6 : Int) (y7 : Int) (y8 : T1.T) : St := ⟨mkS 65 [(3, .ptr 1000000 0 0), (7, .r (.v (.int .i64 y0))), (8, .r (.v (.int .i64 y1))), (32, .r (.ro T0 y2)), (33, .r (.v (.int .i64 y3))), (34, .r (.v (.int .i64 y4))), (44, .r (.ro T0 y5)), (45, .r (.v (.int .i64 y6))), (46, .r (.v (.int .i64 y7)))], [(1000000, 0, .var 41 (rvs (enc T1 y8)))]⟩
mutual
def f_u16_4 (k : Nat) : Nat → List (T0).T → Int → Int → T1.T → Option R_u16
 | 0, _, _, _, _ => none
 | j + 1, y0, y1, y2, y3 =>
 bif (decide (y2 < y1)) then
 if (0 ≤ y2) ∧ (y2 < (↑y0.length : Int)) then
 if ((f_u12 k (y0.getD y2.toNat T0.dflt)).isSome = true) then
 f_u16_8 k j ((v_u12 k (y0.getD y2.toNat T0.dflt)).1) ((v_u12 k (y0.getD y2.toNat T0.dflt)).2) y0 y1 y2 y3.2.2.2 ((↑ (List.length y3.2.2.2) : Int)) 0 y3
 else none
 else none
 else
 some false
def f_u16_8 (k : Nat) : Nat → Int → Int → List (T0).T → Int → Int → List (T0).T → Int → Int → T1.T → Option R_u16
 | 0, _, _, _, _, _, _, _, _, _ => none
 | j + 1, y0, y1, y2, y3, y4, y5, y6, y7, y8 =>
 bif (decide (y7 < y6)) then
 if (0 ≤ y7) ∧ (y7 < (↑y5.length : Int)) then
 if ((f_u12 k (y5.getD y7.toNat T0.dflt)).isSome = true) then
 bif (decide (y0 ≤ (v_u12 k (y5.getD y7.toNat T0.dflt)).2) && decide ((v_u12 k (y5.getD y7.toNat T0.dflt)).1 ≤ y1)) then
 some true
 else
 f_u16_8 k j y0 y1 y2 y3 y4 y5 y6 ((i64.wrap (y7 + 1))) y8
 else none
 else none
 else
 f_u16_4 k j y2 y3 ((i64.wrap (y4 + 1))) y8
end
def f_u16 (k : Nat) (a_ : T1.T) (b_ : T1.T) : Option R_u16 :=
 bif (decide (i64.wrap (a_.1 + a_.2.1) ≤ b_.1) || decide (i64.wrap (b_.1 + b_.2.1) ≤ a_.1)) then
 some false
 else
 f_u16_4 k k a_.2.2.2 ((↑ (List.length a_.2.2.2) : Int)) 0 b_
def v_u16 (k : Nat) (a_ : T1.T) (b_ : T1.T) : R_u16 := (f_u16 k a_ b_).getD false
def K_u16 (k : Nat) : Calld := ⟨fun g xs => match g with
 | 65 => match xs with
  | [_] => some [false]
  | _ => none
 | _ => none, fun g xs bs => match g with
 | 65 => match xs, bs with
  | [.agg qx_], [] => (decS [] T0 qx_).bind fun x_ => some (.one (res_u12 (v_u12 k x_), bo_u12 x_ (v_u12 k x_)))
  | _, _ => none
 | _ => none⟩
theorem ev_u16 (k : Nat) (a_ : T1.T) (b_ : T1.T) : ∀ j, (∀ (y0 : List (T0).T) (y1 : Int) (y2 : Int) (y3 : T1.T) (r : R_u16), f_u16_4 k j y0 y1 y2 y3 = some r → Ev Tryz.prog Tryz.f60 0 (placeAt Tryz.f60 4) (st_u16_4 y0 y1 y2 y3) (res_u16 r) (bo_u16 a_ b_ r)) ∧ (∀ (y0 : Int) (y1 : Int) (y2 : List (T0).T) (y3 : Int) (y4 : Int) (y5 : List (T0).T) (y6 : Int) (y7 : Int) (y8 : T1.T) (r : R_u16), f_u16_8 k j y0 y1 y2 y3 y4 y5 y6 y7 y8 = some r → Ev Tryz.prog Tryz.f60 0 (placeAt Tryz.f60 8) (st_u16_8 y0 y1 y2 y3 y4 y5 y6 y7 y8) (res_u16 r) (bo_u16 a_ b_ r))
 | 0 => by
  refine ⟨?_, ?_⟩ <;> intros <;> rename_i h <;> simp [f_u16_4, f_u16_8] at h
 | j + 1 => by
  have ih := ev_u16 k a_ b_ j
  refine ⟨?_, ?_⟩
  ·intro y0 y1 y2 y3 r h
   rw [f_u16_4] at h
   refine Ev.tree hm (R := Rt) (K := (K_u16 k)) (l := []) (C := [(4, [.autoB [3, 32, 33, 34] false []]), (8, [.autoB [3, 7, 8, 32, 33, 34, 44, 45, 46] false []])]) (E := [.autoB [4] true []]) (n := 1000) (T := .test ((decide (y2 < y1))) (.need [0 ≤ y2, y2 < (↑y0.length : Int)] (.need [CC Tryz.prog 65 (args_u12 (y0.getD y2.toNat T0.dflt)) (bin_u12 (y0.getD y2.toNat T0.dflt)) (res_u12 (v_u12 k (y0.getD y2.toNat T0.dflt))) (bo_u12 (y0.getD y2.toNat T0.dflt) (v_u12 k (y0.getD y2.toNat T0.dflt)))] (.cut 8 (placeAt Tryz.f60 8) (st_u16_8 ((v_u12 k (y0.getD y2.toNat T0.dflt)).1) ((v_u12 k (y0.getD y2.toNat T0.dflt)).2) y0 y1 y2 y3.2.2.2 ((↑ (List.length y3.2.2.2) : Int)) 0 y3)))) (.leaf (res_u16 false) (bo_u16 a_ b_ false))) (by kernel_rfl) ?_
   refine ⟨fun c => ?_, fun c => ?_⟩
   ·rw [cond_t (show ((decide (y2 < y1))) = true from c)] at h
    by_cases q : (0 ≤ y2) ∧ (y2 < (↑y0.length : Int))
    ·rw [if_pos q] at h
     refine ⟨(conjC q.1 (conjC q.2 conj0)), ?_⟩
     by_cases q : ((f_u12 k (y0.getD y2.toNat T0.dflt)).isSome = true)
     ·rw [if_pos q] at h
      refine ⟨(conjC (cc_u12 k (y0.getD y2.toNat T0.dflt) q) conj0), ?_⟩
      exact ih.2 ((v_u12 k (y0.getD y2.toNat T0.dflt)).1) ((v_u12 k (y0.getD y2.toNat T0.dflt)).2) y0 y1 y2 y3.2.2.2 ((↑ (List.length y3.2.2.2) : Int)) 0 y3 _ h
     ·rw [if_neg q] at h; cases h
    ·rw [if_neg q] at h; cases h
   ·rw [cond_f (show ((decide (y2 < y1))) = false from c)] at h
    cases h; exact ⟨rfl, rfl⟩
  ·intro y0 y1 y2 y3 y4 y5 y6 y7 y8 r h
   rw [f_u16_8] at h
   refine Ev.tree hm (R := Rt) (K := (K_u16 k)) (l := []) (C := [(4, [.autoB [3, 32, 33, 34] false []]), (8, [.autoB [3, 7, 8, 32, 33, 34, 44, 45, 46] false []])]) (E := [.autoB [4] true []]) (n := 1000) (T := .test ((decide (y7 < y6))) (.need [0 ≤ y7, y7 < (↑y5.length : Int)] (.need [CC Tryz.prog 65 (args_u12 (y5.getD y7.toNat T0.dflt)) (bin_u12 (y5.getD y7.toNat T0.dflt)) (res_u12 (v_u12 k (y5.getD y7.toNat T0.dflt))) (bo_u12 (y5.getD y7.toNat T0.dflt) (v_u12 k (y5.getD y7.toNat T0.dflt)))] (.test ((decide (y0 ≤ (v_u12 k (y5.getD y7.toNat T0.dflt)).2) && decide ((v_u12 k (y5.getD y7.toNat T0.dflt)).1 ≤ y1))) (.leaf (res_u16 true) (bo_u16 a_ b_ true)) (.cut 8 (placeAt Tryz.f60 8) (st_u16_8 y0 y1 y2 y3 y4 y5 y6 ((i64.wrap (y7 + 1))) y8))))) (.cut 4 (placeAt Tryz.f60 4) (st_u16_4 y2 y3 ((i64.wrap (y4 + 1))) y8))) (by kernel_rfl) ?_
   refine ⟨fun c => ?_, fun c => ?_⟩
   ·rw [cond_t (show ((decide (y7 < y6))) = true from c)] at h
    by_cases q : (0 ≤ y7) ∧ (y7 < (↑y5.length : Int))
    ·rw [if_pos q] at h
     refine ⟨(conjC q.1 (conjC q.2 conj0)), ?_⟩
     by_cases q : ((f_u12 k (y5.getD y7.toNat T0.dflt)).isSome = true)
     ·rw [if_pos q] at h
      refine ⟨(conjC (cc_u12 k (y5.getD y7.toNat T0.dflt) q) conj0), ?_⟩
      refine ⟨fun c => ?_, fun c => ?_⟩
      ·rw [cond_t (show ((decide (y0 ≤ (v_u12 k (y5.getD y7.toNat T0.dflt)).2) && decide ((v_u12 k (y5.getD y7.toNat T0.dflt)).1 ≤ y1))) = true from c)] at h
       cases h; exact ⟨rfl, rfl⟩
      ·rw [cond_f (show ((decide (y0 ≤ (v_u12 k (y5.getD y7.toNat T0.dflt)).2) && decide ((v_u12 k (y5.getD y7.toNat T0.dflt)).1 ≤ y1))) = false from c)] at h
       exact ih.2 y0 y1 y2 y3 y4 y5 y6 ((i64.wrap (y7 + 1))) y8 _ h
     ·rw [if_neg q] at h; cases h
    ·rw [if_neg q] at h; cases h
   ·rw [cond_f (show ((decide (y7 < y6))) = false from c)] at h
    exact ih.1 y2 y3 ((i64.wrap (y4 + 1))) y8 _ h
theorem of_u16 (k : Nat) (a_ : T1.T) (b_ : T1.T) (r : R_u16) (h : f_u16 k a_ b_ = some r) : CC Tryz.prog 60 (args_u16 a_ b_) (bin_u16 a_ b_) (res_u16 r) (bo_u16 a_ b_ r) := by
 refine CC.of (fn := Tryz.f60) (by kernel_rfl) (by kernel_rfl) (by kernel_rfl) (by kernel_rfl) ?_
 unfold f_u16 at h
 refine Ev.tree hm (R := Rt) (K := (K_u16 k)) (l := []) (C := [(4, [.autoB [3, 32, 33, 34] false []]), (8, [.autoB [3, 7, 8, 32, 33, 34, 44, 45, 46] false []])]) (E := [.autoB [4] true []]) (n := 1000) (T := .test ((decide (i64.wrap (a_.1 + a_.2.1) ≤ b_.1) || decide (i64.wrap (b_.1 + b_.2.1) ≤ a_.1))) (.leaf (res_u16 false) (bo_u16 a_ b_ false)) (.cut 4 (placeAt Tryz.f60 4) (st_u16_4 a_.2.2.2 ((↑ (List.length a_.2.2.2) : Int)) 0 b_))) (by kernel_rfl) ?_
 refine ⟨fun c => ?_, fun c => ?_⟩
 ·rw [cond_t (show ((decide (i64.wrap (a_.1 + a_.2.1) ≤ b_.1) || decide (i64.wrap (b_.1 + b_.2.1) ≤ a_.1))) = true from c)] at h
  cases h; exact ⟨rfl, rfl⟩
 ·rw [cond_f (show ((decide (i64.wrap (a_.1 + a_.2.1) ≤ b_.1) || decide (i64.wrap (b_.1 + b_.2.1) ≤ a_.1))) = false from c)] at h
  exact (ev_u16 k a_ b_ k).1 a_.2.2.2 ((↑ (List.length a_.2.2.2) : Int)) 0 b_ _ h
theorem cc_u16 (k : Nat) (a_ : T1.T) (b_ : T1.T) (h : (f_u16 k a_ b_).isSome = true) : CC Tryz.prog 60 (args_u16 a_ b_) (bin_u16 a_ b_) (res_u16 (v_u16 k a_ b_)) (bo_u16 a_ b_ (v_u16 k a_ b_)) := by
 cases e : f_u16 k a_ b_ with
 | none => rw [e] at h; cases h
 | some r => rw [show v_u16 k a_ b_ = r by simp [v_u16, e]]; exact of_u16 k a_ b_ r e

end
end Go.AM
namespace Go.AM
open Go Go.Proofs Go.IntKind
set_option linter.unusedVariables false
noncomputable section
abbrev R_u90 : Type := Int × Int
def res_u90 (r : R_u90) : AV := .tup [.r (.v (.int .i64 r.1)), .r (.v (.int .i64 r.2))]
def bo_u90 (r_ : T0.T) (r : R_u90) : List (Nat × Blk) := []
def args_u90 (r_ : T0.T) : List AV := [.agg (rvs (enc T0 r_))]
def bin_u90 (r_ : T0.T) : List Blk := []
def f_u90 (k : Nat) (r_ : T0.T) : Option R_u90 :=
 bif r_.2.2 then
 some ((i64.wrap (i64.wrap (r_.1 - r_.2.1) + 1), r_.1))
 else
 some ((r_.1, i64.wrap (i64.wrap (r_.1 + r_.2.1) - 1)))
def v_u90 (k : Nat) (r_ : T0.T) : R_u90 := (f_u90 k r_).getD (0, 0)
def K_u90 (k : Nat) : Calld := ⟨fun g xs => match g with
 | _ => none, fun g xs bs => match g with
 | _ => none⟩
theorem of_u90 (k : Nat) (r_ : T0.T) (r : R_u90) (h : f_u90 k r_ = some r) : CC Tryz.prog 62 (args_u90 r_) (bin_u90 r_) (res_u90 r) (bo_u90 r_ r) := by
 refine CC.of (fn := Tryz.f62) (by kernel_rfl) (by kernel_rfl) (by kernel_rfl) (by kernel_rfl) ?_
 unfold f_u90 at h
 refine Ev.tree hm (R := Rt) (K := (K_u90 k)) (l := []) (C := []) (E := [.autoB [2, 3] true []]) (n := 1000) (T := .test (r_.2.2) (.leaf (res_u90 ((i64.wrap (i64.wrap (r_.1 - r_.2.1) + 1), r_.1))) (bo_u90 r_ ((i64.wrap (i64.wrap (r_.1 - r_.2.1) + 1), r_.1)))) (.leaf (res_u90 ((r_.1, i64.wrap (i64.wrap (r_.1 + r_.2.1) - 1)))) (bo_u90 r_ ((r_.1, i64.wrap (i64.wrap (r_.1 + r_.2.1) - 1)))))) (by kernel_rfl) ?_
 refine ⟨fun c => ?_, fun c => ?_⟩
 ·rw [cond_t (show r_.2.2 = true from c)] at h
  cases h; exact ⟨rfl, rfl⟩
 ·rw [cond_f (show r_.2.2 = false from c)] at h
  cases h; exact ⟨rfl, rfl⟩
theorem cc_u90 (k : Nat) (r_ : T0.T) (h : (f_u90 k r_).isSome = true) : CC Tryz.prog 62 (args_u90 r_) (bin_u90 r_) (res_u90 (v_u90 k r_)) (bo_u90 r_ (v_u90 k r_)) := by
 cases e : f_u90 k r_ with
 | none => rw [e] at h; cases h
 | some r => rw [show v_u90 k r_ = r by simp [v_u90, e]]; exact of_u90 k r_ r e

end
end Go.AM
namespace Go.AM
open Go Go.Proofs Go.IntKind
set_option linter.unusedVariables false
noncomputable section
abbrev R_u92 : Type := Bool
def res_u92 (r : R_u92) : AV := .r (.v (.bool r))
def bo_u92 (a_ : List (T0).T) (b_ : List (T0).T) (r : R_u92) : List (Nat × Blk) := []
def args_u92 (a_ : List (T0).T) (b_ : List (T0).T) : List AV := [.r (.ro T0 a_), .r (.ro T0 b_)]
def bin_u92 (a_ : List (T0).T) (b_ : List (T0).T) : List Blk := []
def st_u92_2 (y0 : List (T0).T) (y1 : List (T0).T) (y2 : Int) : St := ⟨mkS 47 [(0, .r (.ro T0 y0)), (1, .r (.ro T0 y1)), (5, .r (.v (.int .i64 y2)))], []⟩
def st_u92_5 (y0 : List (T0).T) (y1 : List (T0).T) (y2 : Int) (y3 : Int) : St := ⟨mkS 47 [(0, .r (.ro T0 y0)), (1, .r (.ro T0 y1)), (5, .r (.v (.int .i64 y2))), (6, .r (.v (.int .i64 y3)))], []⟩
mutual
def f_u92_2 (k : Nat) : Nat → List (T0).T → List (T0).T → Int → Option R_u92
 | 0, _, _, _ => none
 | j + 1, y0, y1, y2 =>
 bif (decide (y2 < (↑y0.length : Int))) then
 f_u92_5 k j y0 y1 y2 0
 else
 some false
def f_u92_5 (k : Nat) : Nat → List (T0).T → List (T0).T → Int → Int → Option R_u92
 | 0, _, _, _, _ => none
 | j + 1, y0, y1, y2, y3 =>
 bif (decide (y3 < (↑y1.length : Int))) then
 if (0 ≤ y2) ∧ (y2 < (↑y0.length : Int)) ∧ ((f_u90 k (y0.getD y2.toNat T0.dflt)).isSome = true) then
 if (0 ≤ y3) ∧ (y3 < (↑y1.length : Int)) ∧ ((f_u90 k (y1.getD y3.toNat T0.dflt)).isSome = true) then
 bif (decide ((v_u90 k (y0.getD y2.toNat T0.dflt)).1 ≤ (v_u90 k (y1.getD y3.toNat T0.dflt)).2) && decide ((v_u90 k (y1.getD y3.toNat T0.dflt)).1 ≤ (v_u90 k (y0.getD y2.toNat T0.dflt)).2)) then
 some true
 else
 f_u92_5 k j y0 y1 y2 ((i64.wrap (y3 + 1)))
 else none
 else none
 else
 f_u92_2 k j y0 y1 ((i64.wrap (y2 + 1)))
end
def f_u92 (k : Nat) (a_ : List (T0).T) (b_ : List (T0).T) : Option R_u92 :=
 f_u92_2 k k a_ b_ 0
def v_u92 (k : Nat) (a_ : List (T0).T) (b_ : List (T0).T) : R_u92 := (f_u92 k a_ b_).getD false
def K_u92 (k : Nat) : Calld := ⟨fun g xs => match g with
 | 62 => match xs with
  | [_] => some [false]
  | _ => none
 | _ => none, fun g xs bs => match g with
 | 62 => match xs, bs with
  | [.agg qr_], [] => (decS [] T0 qr_).bind fun r_ => some (.one (res_u90 (v_u90 k r_), bo_u90 r_ (v_u90 k r_)))
  | _, _ => none
 | _ => none⟩
theorem ev_u92 (k : Nat) (a_ : List (T0).T) (b_ : List (T0).T) : ∀ j, (∀ (y0 : List (T0).T) (y1 : List (T0).T) (y2 : Int) (r : R_u92), f_u92_2 k j y0 y1 y2 = some r → Ev Tryz.prog Tryz.f41 0 (placeAt Tryz.f41 2) (st_u92_2 y0 y1 y2) (res_u92 r) (bo_u92 a_ b_ r)) ∧ (∀ (y0 : List (T0).T) (y1 : List (T0).T) (y2 : Int) (y3 : Int) (r : R_u92), f_u92_5 k j y0 y1 y2 y3 = some r → Ev Tryz.prog Tryz.f41 0 (placeAt Tryz.f41 5) (st_u92_5 y0 y1 y2 y3) (res_u92 r) (bo_u92 a_ b_ r))
 | 0 => by
  refine ⟨?_, ?_⟩ <;> intros <;> rename_i h <;> simp [f_u92_2, f_u92_5] at h
 | j + 1 => by
  have ih := ev_u92 k a_ b_ j
  refine ⟨?_, ?_⟩
  ·intro y0 y1 y2 r h
   rw [f_u92_2] at h
   refine Ev.tree hm (R := Rt) (K := (K_u92 k)) (l := []) (C := [(2, [.autoB [0, 1, 5] false []]), (5, [.autoB [0, 1, 5, 6] false []])]) (E := [.autoB [4] true []]) (n := 1000) (T := .test ((decide (y2 < (↑y0.length : Int)))) (.cut 5 (placeAt Tryz.f41 5) (st_u92_5 y0 y1 y2 0)) (.leaf (res_u92 false) (bo_u92 a_ b_ false))) (by kernel_rfl) ?_
   refine ⟨fun c => ?_, fun c => ?_⟩
   ·rw [cond_t (show ((decide (y2 < (↑y0.length : Int)))) = true from c)] at h
    exact ih.2 y0 y1 y2 0 _ h
   ·rw [cond_f (show ((decide (y2 < (↑y0.length : Int)))) = false from c)] at h
    cases h; exact ⟨rfl, rfl⟩
  ·intro y0 y1 y2 y3 r h
   rw [f_u92_5] at h
   refine Ev.tree hm (R := Rt) (K := (K_u92 k)) (l := []) (C := [(2, [.autoB [0, 1, 5] false []]), (5, [.autoB [0, 1, 5, 6] false []])]) (E := [.autoB [4] true []]) (n := 1000) (T := .test ((decide (y3 < (↑y1.length : Int)))) (.need [0 ≤ y2, y2 < (↑y0.length : Int), CC Tryz.prog 62 (args_u90 (y0.getD y2.toNat T0.dflt)) (bin_u90 (y0.getD y2.toNat T0.dflt)) (res_u90 (v_u90 k (y0.getD y2.toNat T0.dflt))) (bo_u90 (y0.getD y2.toNat T0.dflt) (v_u90 k (y0.getD y2.toNat T0.dflt)))] (.need [0 ≤ y3, y3 < (↑y1.length : Int), CC Tryz.prog 62 (args_u90 (y1.getD y3.toNat T0.dflt)) (bin_u90 (y1.getD y3.toNat T0.dflt)) (res_u90 (v_u90 k (y1.getD y3.toNat T0.dflt))) (bo_u90 (y1.getD y3.toNat T0.dflt) (v_u90 k (y1.getD y3.toNat T0.dflt)))] (.test ((decide ((v_u90 k (y0.getD y2.toNat T0.dflt)).1 ≤ (v_u90 k (y1.getD y3.toNat T0.dflt)).2) && decide ((v_u90 k (y1.getD y3.toNat T0.dflt)).1 ≤ (v_u90 k (y0.getD y2.toNat T0.dflt)).2))) (.leaf (res_u92 true) (bo_u92 a_ b_ true)) (.cut 5 (placeAt Tryz.f41 5) (st_u92_5 y0 y1 y2 ((i64.wrap (y3 + 1)))))))) (.cut 2 (placeAt Tryz.f41 2) (st_u92_2 y0 y1 ((i64.wrap (y2 + 1)))))) (by kernel_rfl) ?_
   refine ⟨fun c => ?_, fun c => ?_⟩
   ·rw [cond_t (show ((decide (y3 < (↑y1.length : Int)))) = true from c)] at h
    by_cases q : (0 ≤ y2) ∧ (y2 < (↑y0.length : Int)) ∧ ((f_u90 k (y0.getD y2.toNat T0.dflt)).isSome = true)
    ·rw [if_pos q] at h
     refine ⟨(conjC q.1 (conjC q.2.1 (conjC (cc_u90 k (y0.getD y2.toNat T0.dflt) q.2.2) conj0))), ?_⟩
     by_cases q : (0 ≤ y3) ∧ (y3 < (↑y1.length : Int)) ∧ ((f_u90 k (y1.getD y3.toNat T0.dflt)).isSome = true)
     ·rw [if_pos q] at h
      refine ⟨(conjC q.1 (conjC q.2.1 (conjC (cc_u90 k (y1.getD y3.toNat T0.dflt) q.2.2) conj0))), ?_⟩
      refine ⟨fun c => ?_, fun c => ?_⟩
      ·rw [cond_t (show ((decide ((v_u90 k (y0.getD y2.toNat T0.dflt)).1 ≤ (v_u90 k (y1.getD y3.toNat T0.dflt)).2) && decide ((v_u90 k (y1.getD y3.toNat T0.dflt)).1 ≤ (v_u90 k (y0.getD y2.toNat T0.dflt)).2))) = true from c)] at h
       cases h; exact ⟨rfl, rfl⟩
      ·rw [cond_f (show ((decide ((v_u90 k (y0.getD y2.toNat T0.dflt)).1 ≤ (v_u90 k (y1.getD y3.toNat T0.dflt)).2) && decide ((v_u90 k (y1.getD y3.toNat T0.dflt)).1 ≤ (v_u90 k (y0.getD y2.toNat T0.dflt)).2))) = false from c)] at h
       exact ih.2 y0 y1 y2 ((i64.wrap (y3 + 1))) _ h
     ·rw [if_neg q] at h; cases h
    ·rw [if_neg q] at h; cases h
   ·rw [cond_f (show ((decide (y3 < (↑y1.length : Int)))) = false from c)] at h
    exact ih.1 y0 y1 ((i64.wrap (y2 + 1))) _ h
theorem of_u92 (k : Nat) (a_ : List (T0).T) (b_ : List (T0).T) (r : R_u92) (h : f_u92 k a_ b_ = some r) : CC Tryz.prog 41 (args_u92 a_ b_) (bin_u92 a_ b_) (res_u92 r) (bo_u92 a_ b_ r) := by
 refine CC.of (fn := Tryz.f41) (by kernel_rfl) (by kernel_rfl) (by kernel_rfl) (by kernel_rfl) ?_
 unfold f_u92 at h
 refine Ev.tree hm (R := Rt) (K := (K_u92 k)) (l := []) (C := [(2, [.autoB [0, 1, 5] false []]), (5, [.autoB [0, 1, 5, 6] false []])]) (E := [.autoB [4] true []]) (n := 1000) (T := .cut 2 (placeAt Tryz.f41 2) (st_u92_2 a_ b_ 0)) (by kernel_rfl) ?_
 exact (ev_u92 k a_ b_ k).1 a_ b_ 0 _ h
theorem cc_u92 (k : Nat) (a_ : List (T0).T) (b_ : List (T0).T) (h : (f_u92 k a_ b_).isSome = true) : CC Tryz.prog 41 (args_u92 a_ b_) (bin_u92 a_ b_) (res_u92 (v_u92 k a_ b_)) (bo_u92 a_ b_ (v_u92 k a_ b_)) := by
 cases e : f_u92 k a_ b_ with
 | none => rw [e] at h; cases h
 | some r => rw [show v_u92 k a_ b_ = r by simp [v_u92, e]]; exact of_u92 k a_ b_ r e

end
end Go.AM
namespace Go.AM
open Go Go.Proofs Go.IntKind
set_option linter.unusedVariables false
noncomputable section
abbrev R_u82 : Type := Int
def res_u82 (r : R_u82) : AV := .r (.v (.int .i64 r))
def bo_u82 (l_ : List (T2).T) (n_ : Int) (id_ : Int) (r : R_u82) : List (Nat × Blk) := []
def args_u82 (l_ : List (T2).T) (n_ : Int) (id_ : Int) : List AV := [.r (.ro T2 l_), .r (.v (.int .i64 n_)), .r (.v (.int .i64 id_))]
def bin_u82 (l_ : List (T2).T) (n_ : Int) (id_ : Int) : List Blk := []
def st_u82_2 (y0 : List (T2).T) (y1 : Int) (y2 : Int) (y3 : Int) : St := ⟨mkS 21 [(0, .r (.ro T2 y0)), (1, .r (.v (.int .i64 y1))), (2, .r (.v (.int .i64 y2))), (7, .r (.v (.int .i64 y3)))], []⟩
def f_u82_2 (k : Nat) : Nat → List (T2).T → Int → Int → Int → Option R_u82
 | 0, _, _, _, _ => none
 | j + 1, y0, y1, y2, y3 =>
 bif (decide (y3 < y1)) then
 if (0 ≤ y3) ∧ (y3 < (↑y0.length : Int)) then
 bif ((y0.getD y3.toNat T2.dflt).1 == y2) then
 some y3
 else
 f_u82_2 k j y0 y1 y2 ((i64.wrap (y3 + 1)))
 else none
 else
 some (-1)
def f_u82 (k : Nat) (l_ : List (T2).T) (n_ : Int) (id_ : Int) : Option R_u82 :=
 f_u82_2 k k l_ n_ id_ 0
def v_u82 (k : Nat) (l_ : List (T2).T) (n_ : Int) (id_ : Int) : R_u82 := (f_u82 k l_ n_ id_).getD 0
def K_u82 (k : Nat) : Calld := ⟨fun g xs => match g with
 | _ => none, fun g xs bs => match g with
 | _ => none⟩
theorem ev_u82 (k : Nat) (l_ : List (T2).T) (n_ : Int) (id_ : Int) : ∀ j, (∀ (y0 : List (T2).T) (y1 : Int) (y2 : Int) (y3 : Int) (r : R_u82), f_u82_2 k j y0 y1 y2 y3 = some r → Ev Tryz.prog Tryz.f35 0 (placeAt Tryz.f35 2) (st_u82_2 y0 y1 y2 y3) (res_u82 r) (bo_u82 l_ n_ id_ r))
 | 0 => by
  intros; rename_i h; simp [f_u82_2] at h
 | j + 1 => by
  have ih := ev_u82 k l_ n_ id_ j
  ·intro y0 y1 y2 y3 r h
   rw [f_u82_2] at h
   refine Ev.tree hm (R := Rt) (K := (K_u82 k)) (l := []) (C := [(2, [.autoB [0, 1, 2, 7] false []])]) (E := [.autoB [6] true []]) (n := 1000) (T := .test ((decide (y3 < y1))) (.need [0 ≤ y3, y3 < (↑y0.length : Int)] (.test (((y0.getD y3.toNat T2.dflt).1 == y2)) (.leaf (res_u82 y3) (bo_u82 l_ n_ id_ y3)) (.cut 2 (placeAt Tryz.f35 2) (st_u82_2 y0 y1 y2 ((i64.wrap (y3 + 1))))))) (.leaf (res_u82 (-1)) (bo_u82 l_ n_ id_ (-1)))) (by kernel_rfl) ?_
   refine ⟨fun c => ?_, fun c => ?_⟩
   ·rw [cond_t (show ((decide (y3 < y1))) = true from c)] at h
    by_cases q : (0 ≤ y3) ∧ (y3 < (↑y0.length : Int))
    ·rw [if_pos q] at h
     refine ⟨(conjC q.1 (conjC q.2 conj0)), ?_⟩
     refine ⟨fun c => ?_, fun c => ?_⟩
     ·rw [cond_t (show (((y0.getD y3.toNat T2.dflt).1 == y2)) = true from c)] at h
      cases h; exact ⟨rfl, rfl⟩
     ·rw [cond_f (show (((y0.getD y3.toNat T2.dflt).1 == y2)) = false from c)] at h
      exact ih y0 y1 y2 ((i64.wrap (y3 + 1))) _ h
    ·rw [if_neg q] at h; cases h
   ·rw [cond_f (show ((decide (y3 < y1))) = false from c)] at h
    cases h; exact ⟨rfl, rfl⟩
theorem of_u82 (k : Nat) (l_ : List (T2).T) (n_ : Int) (id_ : Int) (r : R_u82) (h : f_u82 k l_ n_ id_ = some r) : CC Tryz.prog 35 (args_u82 l_ n_ id_) (bin_u82 l_ n_ id_) (res_u82 r) (bo_u82 l_ n_ id_ r) := by
 refine CC.of (fn := Tryz.f35) (by kernel_rfl) (by kernel_rfl) (by kernel_rfl) (by kernel_rfl) ?_
 unfold f_u82 at h
 refine Ev.tree hm (R := Rt) (K := (K_u82 k)) (l := []) (C := [(2, [.autoB [0, 1, 2, 7] false []])]) (E := [.autoB [6] true []]) (n := 1000) (T := .cut 2 (placeAt Tryz.f35 2) (st_u82_2 l_ n_ id_ 0)) (by kernel_rfl) ?_
 exact (ev_u82 k l_ n_ id_ k) l_ n_ id_ 0 _ h
theorem cc_u82 (k : Nat) (l_ : List (T2).T) (n_ : Int) (id_ : Int) (h : (f_u82 k l_ n_ id_).isSome = true) : CC Tryz.prog 35 (args_u82 l_ n_ id_) (bin_u82 l_ n_ id_) (res_u82 (v_u82 k l_ n_ id_)) (bo_u82 l_ n_ id_ (v_u82 k l_ n_ id_)) := by
 cases e : f_u82 k l_ n_ id_ with
 | none => rw [e] at h; cases h
 | some r => rw [show v_u82 k l_ n_ id_ = r by simp [v_u82, e]]; exact of_u82 k l_ n_ id_ r e

end
end Go.AM
namespace Go.AM
open Go Go.Proofs Go.IntKind
set_option linter.unusedVariables false
noncomputable section
abbrev R_u85 : Type := Int
def res_u85 (r : R_u85) : AV := .r (.v (.int .i64 r))
def bo_u85 (m_ : List (T0).T) (r : R_u85) : List (Nat × Blk) := []
def args_u85 (m_ : List (T0).T) : List AV := [.r (.ro T0 m_)]
def bin_u85 (m_ : List (T0).T) : List Blk := []
def st_u85_3 (y0 : List (T0).T) (y1 : Int) (y2 : Int) : St := ⟨mkS 19 [(0, .r (.ro T0 y0)), (3, .r (.v (.int .i64 y1))), (4, .r (.v (.int .i64 y2)))], []⟩
def f_u85_3 (k : Nat) : Nat → List (T0).T → Int → Int → Option R_u85
 | 0, _, _, _ => none
 | j + 1, y0, y1, y2 =>
 bif (decide (y2 < (↑y0.length : Int))) then
 if (0 ≤ y2) ∧ (y2 < (↑y0.length : Int)) then
 f_u85_3 k j y0 ((i64.wrap (y1 + (y0.getD y2.toNat T0.dflt).2.1))) ((i64.wrap (y2 + 1)))
 else none
 else
 some y1
def f_u85 (k : Nat) (m_ : List (T0).T) : Option R_u85 :=
 f_u85_3 k k m_ 0 0
def v_u85 (k : Nat) (m_ : List (T0).T) : R_u85 := (f_u85 k m_).getD 0
def K_u85 (k : Nat) : Calld := ⟨fun g xs => match g with
 | _ => none, fun g xs bs => match g with
 | _ => none⟩
theorem ev_u85 (k : Nat) (m_ : List (T0).T) : ∀ j, (∀ (y0 : List (T0).T) (y1 : Int) (y2 : Int) (r : R_u85), f_u85_3 k j y0 y1 y2 = some r → Ev Tryz.prog Tryz.f43 0 (placeAt Tryz.f43 3) (st_u85_3 y0 y1 y2) (res_u85 r) (bo_u85 m_ r))
 | 0 => by
  intros; rename_i h; simp [f_u85_3] at h
 | j + 1 => by
  have ih := ev_u85 k m_ j
  ·intro y0 y1 y2 r h
   rw [f_u85_3] at h
   refine Ev.tree hm (R := Rt) (K := (K_u85 k)) (l := []) (C := [(3, [.autoB [0, 3, 4] false []])]) (E := [.autoB [2] true []]) (n := 1000) (T := .test ((decide (y2 < (↑y0.length : Int)))) (.need [0 ≤ y2, y2 < (↑y0.length : Int)] (.cut 3 (placeAt Tryz.f43 3) (st_u85_3 y0 ((i64.wrap (y1 + (y0.getD y2.toNat T0.dflt).2.1))) ((i64.wrap (y2 + 1)))))) (.leaf (res_u85 y1) (bo_u85 m_ y1))) (by kernel_rfl) ?_
   refine ⟨fun c => ?_, fun c => ?_⟩
   ·rw [cond_t (show ((decide (y2 < (↑y0.length : Int)))) = true from c)] at h
    by_cases q : (0 ≤ y2) ∧ (y2 < (↑y0.length : Int))
    ·rw [if_pos q] at h
     refine ⟨(conjC q.1 (conjC q.2 conj0)), ?_⟩
     exact ih y0 ((i64.wrap (y1 + (y0.getD y2.toNat T0.dflt).2.1))) ((i64.wrap (y2 + 1))) _ h
    ·rw [if_neg q] at h; cases h
   ·rw [cond_f (show ((decide (y2 < (↑y0.length : Int)))) = false from c)] at h
    cases h; exact ⟨rfl, rfl⟩
theorem of_u85 (k : Nat) (m_ : List (T0).T) (r : R_u85) (h : f_u85 k m_ = some r) : CC Tryz.prog 43 (args_u85 m_) (bin_u85 m_) (res_u85 r) (bo_u85 m_ r) := by
 refine CC.of (fn := Tryz.f43) (by kernel_rfl) (by kernel_rfl) (by kernel_rfl) (by kernel_rfl) ?_
 unfold f_u85 at h
 refine Ev.tree hm (R := Rt) (K := (K_u85 k)) (l := []) (C := [(3, [.autoB [0, 3, 4] false []])]) (E := [.autoB [2] true []]) (n := 1000) (T := .cut 3 (placeAt Tryz.f43 3) (st_u85_3 m_ 0 0)) (by kernel_rfl) ?_
 exact (ev_u85 k m_ k) m_ 0 0 _ h
theorem cc_u85 (k : Nat) (m_ : List (T0).T) (h : (f_u85 k m_).isSome = true) : CC Tryz.prog 43 (args_u85 m_) (bin_u85 m_) (res_u85 (v_u85 k m_)) (bo_u85 m_ (v_u85 k m_)) := by
 cases e : f_u85 k m_ with
 | none => rw [e] at h; cases h
 | some r => rw [show v_u85 k m_ = r by simp [v_u85, e]]; exact of_u85 k m_ r e

end
end Go.AM
namespace Go.AM
open Go Go.Proofs Go.IntKind
set_option linter.unusedVariables false
noncomputable section
abbrev R_u36 : Type := Int × Int
def res_u36 (r : R_u36) : AV := .tup [.r (.v (.int .i64 r.1)), .r (.v (.int .i64 r.2))]
def bo_u36 (m_ : List (T0).T) (r : R_u36) : List (Nat × Blk) := []
def args_u36 (m_ : List (T0).T) : List AV := [.r (.ro T0 m_)]
def bin_u36 (m_ : List (T0).T) : List Blk := []
def f_u36 (k : Nat) (m_ : List (T0).T) : Option R_u36 :=
 if ((f_u32 k m_).isSome = true) then
 bif (v_u32 k m_ != (0 : Int)) then
 some ((0, v_u32 k m_))
 else
 if ((f_u45 k m_).isSome = true) then
 some ((v_u45 k m_, 0))
 else none
 else none
def v_u36 (k : Nat) (m_ : List (T0).T) : R_u36 := (f_u36 k m_).getD (0, 0)
def K_u36 (k : Nat) : Calld := ⟨fun g xs => match g with
 | 68 => match xs with
  | [_] => some [false]
  | _ => none
 | 69 => match xs with
  | [_] => some [false]
  | _ => none
 | _ => none, fun g xs bs => match g with
 | 68 => match xs, bs with
  | [.r (.ro tm__ qm_)], [] => (castL tm__ T0 qm_).bind fun m_ => some (.one (res_u32 (v_u32 k m_), bo_u32 m_ (v_u32 k m_)))
  | _, _ => none
 | 69 => match xs, bs with
  | [.r (.ro tm__ qm_)], [] => (castL tm__ T0 qm_).bind fun m_ => some (.one (res_u45 (v_u45 k m_), bo_u45 m_ (v_u45 k m_)))
  | _, _ => none
 | _ => none⟩
theorem of_u36 (k : Nat) (m_ : List (T0).T) (r : R_u36) (h : f_u36 k m_ = some r) : CC Tryz.prog 63 (args_u36 m_) (bin_u36 m_) (res_u36 r) (bo_u36 m_ r) := by
 refine CC.of (fn := Tryz.f63) (by kernel_rfl) (by kernel_rfl) (by kernel_rfl) (by kernel_rfl) ?_
 unfold f_u36 at h
 refine Ev.tree hm (R := Rt) (K := (K_u36 k)) (l := []) (C := []) (E := [.autoB [2, 3] true []]) (n := 1000) (T := .need [CC Tryz.prog 68 (args_u32 m_) (bin_u32 m_) (res_u32 (v_u32 k m_)) (bo_u32 m_ (v_u32 k m_))] (.test ((v_u32 k m_ != (0 : Int))) (.leaf (res_u36 ((0, v_u32 k m_))) (bo_u36 m_ ((0, v_u32 k m_)))) (.need [CC Tryz.prog 69 (args_u45 m_) (bin_u45 m_) (res_u45 (v_u45 k m_)) (bo_u45 m_ (v_u45 k m_))] (.leaf (res_u36 ((v_u45 k m_, 0))) (bo_u36 m_ ((v_u45 k m_, 0))))))) (by kernel_rfl) ?_
 by_cases q : ((f_u32 k m_).isSome = true)
 ·rw [if_pos q] at h
  refine ⟨(conjC (cc_u32 k m_ q) conj0), ?_⟩
  refine ⟨fun c => ?_, fun c => ?_⟩
  ·rw [cond_t (show ((v_u32 k m_ != (0 : Int))) = true from c)] at h
   cases h; exact ⟨rfl, rfl⟩
  ·rw [cond_f (show ((v_u32 k m_ != (0 : Int))) = false from c)] at h
   by_cases q : ((f_u45 k m_).isSome = true)
   ·rw [if_pos q] at h
    refine ⟨(conjC (cc_u45 k m_ q) conj0), ?_⟩
    cases h; exact ⟨rfl, rfl⟩
   ·rw [if_neg q] at h; cases h
 ·rw [if_neg q] at h; cases h
theorem cc_u36 (k : Nat) (m_ : List (T0).T) (h : (f_u36 k m_).isSome = true) : CC Tryz.prog 63 (args_u36 m_) (bin_u36 m_) (res_u36 (v_u36 k m_)) (bo_u36 m_ (v_u36 k m_)) := by
 cases e : f_u36 k m_ with
 | none => rw [e] at h; cases h
 | some r => rw [show v_u36 k m_ = r by simp [v_u36, e]]; exact of_u36 k m_ r e

end
end Go.AM
namespace Go.AM
open Go Go.Proofs Go.IntKind

theorem getD_mem' {α : Type} (l : List α) (i : Nat) (d : α) (h : i < l.length) : l.getD i d ∈ l := by simp [h]
theorem getD_app {α : Type} (p t : List α) (i : Nat) (d : α) (h : i < p.length) : (p ++ t).getD i d = p.getD i d := by simp [List.getElem?_append_left h]
theorem getD_any {α : Type} (p : List α) (i : Nat) (d e : α) (h : i < p.length) : p.getD i d = p.getD i e := by simp [h]

theorem fam_bounds_s (k : Nat) (r : Rn) (h : good r) : f_u12 k r = some (lo r, Go.AM.hi r) := by
 obtain ⟨h1, h2, h3, h4, h5, h6⟩ := h
 unfold f_u12 lo Go.AM.hi
 cases hb : r.2.2
 ·have := h6 hb
  rw [cond_false, wrap_id (i := r.1 + r.2.1) (by omega) (by omega), wrap_id (by omega) (by omega)]; rfl
 ·have := h5 hb
  rw [cond_true, wrap_id (i := r.1 - r.2.1) (by omega) (by omega), wrap_id (by omega) (by omega)]; rfl
theorem fam_bounds_v (k : Nat) (r : Rn) (h : good r) : v_u12 k r = (lo r, Go.AM.hi r) := by
 unfold v_u12; rw [fam_bounds_s k r h]; rfl
theorem ref42_ends_s (k : Nat) (r : Rn) (h : good r) : f_u90 k r = some (lo r, Go.AM.hi r) := by
 obtain ⟨h1, h2, h3, h4, h5, h6⟩ := h
 unfold f_u90 lo Go.AM.hi
 cases hb : r.2.2
 ·have := h6 hb
  rw [cond_false, wrap_id (i := r.1 + r.2.1) (by omega) (by omega), wrap_id (by omega) (by omega)]; rfl
 ·have := h5 hb
  rw [cond_true, wrap_id (i := r.1 - r.2.1) (by omega) (by omega), wrap_id (by omega) (by omega)]; rfl
theorem ref42_ends_v (k : Nat) (r : Rn) (h : good r) : v_u90 k r = (lo r, Go.AM.hi r) := by
 unfold v_u90; rw [ref42_ends_s k r h]; rfl

def touch (x y : Rn) : Bool := decide (lo x ≤ Go.AM.hi y) && decide (lo y ≤ Go.AM.hi x)
theorem meetS_eq (a b : List Rn) : meetS a b = a.any fun x => b.any fun y => touch x y := rfl

theorem fam_overlap_8 (k : Nat) (x : Rn) (a : List Rn) (la i : Int) (c : Ch) (m : List Rn) (hm : goods m) (hl : m.length ≤ 256) : ∀ (d q n : Nat), q + d = m.length →
  f_u16_8 k (n + d + 1) (lo x) (Go.AM.hi x) a la i m (m.length : Int) (q : Int) c = if (m.drop q).any (touch x) = true then some true else f_u16_4 k n a la (i64.wrap (i + 1)) c := by
 intro d
 induction d with
 | zero =>
  intro q n hq
  rw [f_u16_8, decide_eq_false (by omega : ¬ (q : Int) < (m.length : Int)), cond_false, List.drop_of_length_le (by omega), List.any_nil, if_neg (by decide)]
 | succ d ih =>
  intro q n hq
  have hg : good (m.getD q T0.dflt) := hm.mem _ (getD_mem' _ _ _ (by omega))
  rw [show n + (d + 1) + 1 = (n + d + 1) + 1 from rfl, f_u16_8, decide_eq_true (by omega : (q : Int) < (m.length : Int)), cond_true, if_pos ⟨by omega, by omega⟩, Int.toNat_natCast, fam_bounds_s k _ hg, fam_bounds_v k _ hg, Option.isSome_some, if_pos rfl, drop_cons' m q T0.dflt (by omega), List.any_cons, wrapS q (by omega), ih (q + 1) n (by omega)]
  show (bif touch x (m.getD q T0.dflt) then _ else _) = _
  cases touch x (m.getD q T0.dflt)
  ·rw [cond_false, Bool.false_or]
  ·rw [cond_true, Bool.true_or, if_pos rfl]
set_option maxRecDepth 20000 in
theorem fam_overlap_4 (k : Nat) (a : List Rn) (ha : goods a) (hl : a.length ≤ 256) (c : Ch) (hc : goods c.2.2.2) (hcl : c.2.2.2.length ≤ 256) : ∀ (d i j : Nat), i + d = a.length → d * 258 < j →
  f_u16_4 k j a (a.length : Int) (i : Int) c = some (meetS (a.drop i) c.2.2.2) := by
 intro d
 induction d with
 | zero =>
  intro i j hi hj
  obtain ⟨j, rfl⟩ : ∃ q, j = q + 1 := ⟨j - 1, by omega⟩
  rw [f_u16_4, decide_eq_false (by omega : ¬ (i : Int) < (a.length : Int)), cond_false, List.drop_of_length_le (by omega)]
  rfl
 | succ d ih =>
  intro i j hi hj
  obtain ⟨j, rfl⟩ : ∃ q, j = (q + c.2.2.2.length + 1) + 1 := ⟨j - c.2.2.2.length - 2, by omega⟩
  have hg : good (a.getD i T0.dflt) := ha.mem _ (getD_mem' _ _ _ (by omega))
  have h8 := fam_overlap_8 k (a.getD i T0.dflt) a (a.length : Int) (i : Int) c c.2.2.2 hc hcl c.2.2.2.length 0 j (by omega)
  rw [f_u16_4, decide_eq_true (by omega : (i : Int) < (a.length : Int)), cond_true, if_pos ⟨by omega, by omega⟩, Int.toNat_natCast, fam_bounds_s k _ hg, fam_bounds_v k _ hg, Option.isSome_some, if_pos rfl, drop_cons' a i T0.dflt (by omega), meetS_eq, List.any_cons]
  refine (h8.trans ?_)
  rw [List.drop_zero, wrapS i (by omega), ih (i + 1) j (by omega) (by omega), meetS_eq]
  by_cases h : (c.2.2.2.any (touch (a.getD i T0.dflt))) = true
  ·rw [if_pos h, show (c.2.2.2.any fun y => touch (a.getD i T0.dflt) y) = true from h, Bool.true_or]
  ·rw [if_neg h, show (c.2.2.2.any fun y => touch (a.getD i T0.dflt) y) = false from by simpa using h, Bool.false_or]
structure Small (c : Ch) : Prop where
 l0 : 0 ≤ c.1
 w0 : 1 ≤ c.2.1
 r0 : c.1 + c.2.1 ≤ 12000
 chk : Chk c.2.2.2
theorem fam_overlap_s (k : Nat) (hk : 70000 ≤ k) (a b : Ch) (ha : Small a) (hb : Small b) : f_u16 k a b = some (ovlS a b) := by
 obtain ⟨a1, a2, a3, a4⟩ := ha
 obtain ⟨b1, b2, b3, b4⟩ := hb
 unfold f_u16 ovlS
 rw [wrap_id (i := a.1 + a.2.1) (by omega) (by omega), wrap_id (i := b.1 + b.2.1) (by omega) (by omega)]
 by_cases h1 : a.1 + a.2.1 ≤ b.1
 ·rw [decide_eq_true h1, Bool.true_or, cond_true, decide_eq_false (by omega : ¬ b.1 < a.1 + a.2.1), Bool.and_false, Bool.false_and]
 ·by_cases h2 : b.1 + b.2.1 ≤ a.1
  ·rw [decide_eq_true h2, Bool.or_true, cond_true, decide_eq_false (by omega : ¬ a.1 < b.1 + b.2.1), Bool.false_and, Bool.false_and]
  ·rw [decide_eq_false h1, decide_eq_false h2, Bool.or_false, cond_false, decide_eq_true (by omega : b.1 < a.1 + a.2.1), decide_eq_true (by omega : a.1 < b.1 + b.2.1), Bool.and_true, Bool.true_and]
   have h1 := a4.len
   exact fam_overlap_4 k a.2.2.2 a4.goods h1 b b4.goods b4.len a.2.2.2.length 0 k (by omega) (by omega)
theorem fam_overlap_v (k : Nat) (hk : 70000 ≤ k) (a b : Ch) (ha : Small a) (hb : Small b) : v_u16 k a b = ovlS a b := by
 unfold v_u16; rw [fam_overlap_s k hk a b ha hb]; rfl

theorem ref42_meet_5 (k : Nat) (a m : List Rn) (ha : goods a) (i : Nat) (hi : i < a.length) (hm : goods m) (hl : m.length ≤ 256) : ∀ (d q n : Nat), q + d = m.length →
  f_u92_5 k (n + d + 1) a m (i : Int) (q : Int) = if (m.drop q).any (touch (a.getD i T0.dflt)) = true then some true else f_u92_2 k n a m (i64.wrap ((i : Int) + 1)) := by
 intro d
 have hx : good (a.getD i T0.dflt) := ha.mem _ (getD_mem' _ _ _ (by omega))
 induction d with
 | zero =>
  intro q n hq
  rw [f_u92_5, decide_eq_false (by omega : ¬ (q : Int) < (m.length : Int)), cond_false, List.drop_of_length_le (by omega), List.any_nil, if_neg (by decide)]
 | succ d ih =>
  intro q n hq
  have hg : good (m.getD q T0.dflt) := hm.mem _ (getD_mem' _ _ _ (by omega))
  rw [show n + (d + 1) + 1 = (n + d + 1) + 1 from rfl, f_u92_5, decide_eq_true (by omega : (q : Int) < (m.length : Int)), cond_true, Int.toNat_natCast, Int.toNat_natCast, ref42_ends_s k _ hx, ref42_ends_v k _ hx, ref42_ends_s k _ hg, ref42_ends_v k _ hg, if_pos ⟨by omega, by omega, rfl⟩, if_pos ⟨by omega, by omega, rfl⟩, drop_cons' m q T0.dflt (by omega), List.any_cons, wrapS q (by omega), ih (q + 1) n (by omega)]
  show (bif touch (a.getD i T0.dflt) (m.getD q T0.dflt) then _ else _) = _
  cases touch (a.getD i T0.dflt) (m.getD q T0.dflt)
  ·rw [cond_false, Bool.false_or]
  ·rw [cond_true, Bool.true_or, if_pos rfl]
set_option maxRecDepth 20000 in
theorem ref42_meet_2 (k : Nat) (a m : List Rn) (ha : goods a) (hl : a.length ≤ 256) (hm : goods m) (hml : m.length ≤ 256) : ∀ (d i j : Nat), i + d = a.length → d * 258 < j →
  f_u92_2 k j a m (i : Int) = some (meetS (a.drop i) m) := by
 intro d
 induction d with
 | zero =>
  intro i j hi hj
  obtain ⟨j, rfl⟩ : ∃ q, j = q + 1 := ⟨j - 1, by omega⟩
  rw [f_u92_2, decide_eq_false (by omega : ¬ (i : Int) < (a.length : Int)), cond_false, List.drop_of_length_le (by omega)]
  rfl
 | succ d ih =>
  intro i j hi hj
  obtain ⟨j, rfl⟩ : ∃ q, j = (q + m.length + 1) + 1 := ⟨j - m.length - 2, by omega⟩
  have h8 := ref42_meet_5 k a m ha i (by omega) hm hml m.length 0 j (by omega)
  rw [f_u92_2, decide_eq_true (by omega : (i : Int) < (a.length : Int)), cond_true, drop_cons' a i T0.dflt (by omega), meetS_eq, List.any_cons]
  refine (h8.trans ?_)
  rw [List.drop_zero, wrapS i (by omega), ih (i + 1) j (by omega) (by omega), meetS_eq]
  by_cases h : (m.any (touch (a.getD i T0.dflt))) = true
  ·rw [if_pos h, show (m.any fun y => touch (a.getD i T0.dflt) y) = true from h, Bool.true_or]
  ·rw [if_neg h, show (m.any fun y => touch (a.getD i T0.dflt) y) = false from by simpa using h, Bool.false_or]
theorem ref42_meet_s (k : Nat) (hk : 70000 ≤ k) (a b : List Rn) (ha : Chk a) (hb : Chk b) : f_u92 k a b = some (meetS a b) := by
 unfold f_u92
 have h1 := ha.len
 exact ref42_meet_2 k a b ha.goods h1 hb.goods hb.len a.length 0 k (by omega) (by omega)
theorem ref42_meet_v (k : Nat) (hk : 70000 ≤ k) (a b : List Rn) (ha : Chk a) (hb : Chk b) : v_u92 k a b = meetS a b := by
 unfold v_u92; rw [ref42_meet_s k hk a b ha hb]; rfl

theorem iso_Length_s (k : Nat) (hk : 2100 ≤ k) (m : List Rn) (h : Chk m) : f_u36 k m = some (lenS m, 0) := by
 have h1 := h.len
 unfold f_u36
 rw [iso_Check_s k (by omega), iso_Check_v k (by omega), Option.isSome_some, if_pos rfl, chk_zero.2 h]
 show (if _ then _ else _) = _
 rw [iso_length_s k m h.goods (by omega) (by omega), iso_length_v k m h.goods (by omega) (by omega)]
 rfl
theorem iso_Length_v (k : Nat) (hk : 2100 ≤ k) (m : List Rn) (h : Chk m) : v_u36 k m = (lenS m, 0) := by
 unfold v_u36; rw [iso_Length_s k hk m h]; rfl

theorem ref42_Long_l (k : Nat) (m : List Rn) (hg : goods m) (hm : m.length ≤ 1000) : ∀ (j i : Nat) (n : Int), i ≤ m.length → m.length - i < j → 0 ≤ n → n ≤ (i : Int) * 17179869184 →
  f_u85_3 k j m n (i : Int) = some (n + lenS (m.drop i)) := by
 intro j
 induction j with
 | zero => intros; omega
 | succ j ih =>
  intro i n hi hj h0 h1
  rw [f_u85_3]
  by_cases h : i < m.length
  ·have hgr : good (m.getD i T0.dflt) := hg.mem _ (getD_mem' _ _ _ (by omega))
   obtain ⟨g1, g2, g3, g4, _⟩ := hgr
   rw [decide_eq_true (by omega : (i : Int) < (m.length : Int)), cond_true, if_pos ⟨by omega, by omega⟩, Int.toNat_natCast, wrapS i (by omega), wrap_id (by omega) (by omega), ih (i + 1) _ (by omega) (by omega) (by omega) (by omega), drop_cons' m i T0.dflt h, lenS, Int.add_assoc]
  ·rw [decide_eq_false (by omega : ¬ (i : Int) < (m.length : Int)), cond_false, List.drop_of_length_le (by omega), lenS, Int.add_zero]
theorem ref42_Long_s (k : Nat) (hk : 2100 ≤ k) (m : List Rn) (h : Chk m) : f_u85 k m = some (lenS m) := by
 have h1 := h.len
 unfold f_u85
 refine (ref42_Long_l k m h.goods (by omega) k 0 0 (by omega) (by omega) (by omega) (by omega)).trans ?_
 rw [List.drop_zero, Int.zero_add]
theorem ref42_Long_v (k : Nat) (hk : 2100 ≤ k) (m : List Rn) (h : Chk m) : v_u85 k m = lenS m := by
 unfold v_u85; rw [ref42_Long_s k hk m h]; rfl

def At (p : List Ro) (id : Int) (i : Option Int) : Prop := match look p id with
 | none => i = none
 | some r => ∃ q : Nat, i = some (q : Int) ∧ q < p.length ∧ ∀ d, p.getD q d = r
theorem At.none {p : List Ro} {id : Int} {i : Option Int} (h : At p id i) (e : look p id = .none) : i = .none := by
 unfold At at h; rw [e] at h; exact h
theorem At.some {p : List Ro} {id : Int} {i : Option Int} {r : Ro} (h : At p id i) (e : look p id = .some r) : ∃ q : Nat, i = .some (q : Int) ∧ q < p.length ∧ ∀ d, p.getD q d = r := by
 unfold At at h; rw [e] at h; exact h

theorem mget_mset (id v : Int) (x : Int) : ∀ M : List (Int × Int), mget I x (mset I id v M) = if x = id then some v else mget I x M
 | [] => by
  show (bif (x == id) then some v else none) = _
  by_cases h : x = id
  ·rw [show (x == id) = true by simp [h], if_pos h]; rfl
  ·rw [show (x == id) = false by simp [h], if_neg h]; rfl
 | p :: t => by
  unfold mset
  by_cases h : id = p.1
  ·rw [show eqK I id p.1 = true from by show (id == p.1) = true; simp [h], cond_true]
   show (bif (x == id) then some v else mget I x t) = _
   by_cases h2 : x = id
   ·simp [h2]
   ·rw [if_neg h2, show (x == id) = false by simp [h2], cond_false, mget, show eqK I x p.1 = false from by show (x == p.1) = false; rw [← h]; simp [h2], cond_false]
  ·rw [show eqK I id p.1 = false from by show (id == p.1) = false; simp [h], cond_false, mget, mget_mset id v x t]
   show (bif (x == p.1) then some p.2 else _) = if _ then _ else (bif (x == p.1) then some p.2 else _)
   by_cases h2 : x = id
   ·rw [if_pos h2, if_pos h2, show (x == p.1) = false by rw [h2]; simp [h], cond_false]
   ·rw [if_neg h2, if_neg h2]
def RegOk (M : List (Int × Int)) (p : List Ro) : Prop := ∀ id, At p id (mget I id M)
theorem regOk_nil : RegOk [] [] := fun id => by unfold At look; rfl
theorem regOk_old {M : List (Int × Int)} {p : List Ro} (h : RegOk M p) (r : Ro) (hr : (look p r.1).isSome = true) : RegOk M (p ++ [r]) := fun id => by
 have h1 := h id
 unfold At at *
 rw [look_append]
 cases e : look p id with
 | some q =>
  rw [e] at h1
  obtain ⟨i, h2, h3, h4⟩ := h1
  exact ⟨i, h2, by rw [List.length_append]; omega, fun d => by rw [getD_app _ _ _ _ h3]; exact h4 d⟩
 | none =>
  rw [e] at h1
  have : r.1 ≠ id := fun e2 => by rw [e2, e] at hr; cases hr
  rw [Option.none_or, show look [r] id = none by unfold look; simp [this]]
  exact h1
theorem regOk_new {M : List (Int × Int)} {p : List Ro} (h : RegOk M p) (r : Ro) (hr : look p r.1 = none) : RegOk (mset I r.1 (p.length : Int) M) (p ++ [r]) := fun id => by
 have h1 := h id
 rw [mget_mset]
 unfold At at *
 rw [look_append]
 by_cases hi : id = r.1
 ·rw [if_pos hi, hi, hr, Option.none_or, show look [r] r.1 = some r by unfold look; simp]
  exact ⟨p.length, rfl, by simp, fun d => by simp⟩
 ·rw [if_neg hi]
  cases e : look p id with
  | some q =>
   rw [e] at h1
   obtain ⟨i, h2, h3, h4⟩ := h1
   exact ⟨i, h2, by rw [List.length_append]; omega, fun d => by rw [getD_app _ _ _ _ h3]; exact h4 d⟩
  | none =>
   rw [e] at h1
   rw [Option.none_or, show look [r] id = none by unfold look; simp [Ne.symm hi]]
   exact h1

theorem ref42_Index_l (k : Nat) (p t : List Ro) (id : Int) (hp : p.length ≤ 100000) : ∀ (d i j : Nat), i + d = p.length → d < j → look (p.take i) id = none →
  ∃ o : Option Int, f_u82_2 k j (p ++ t) (p.length : Int) id (i : Int) = some (o.getD (-1)) ∧ At p id o := by
 intro d
 induction d with
 | zero =>
  intro i j hi hj hn
  obtain ⟨j, rfl⟩ : ∃ q, j = q + 1 := ⟨j - 1, by omega⟩
  rw [f_u82_2, decide_eq_false (by omega : ¬ (i : Int) < (p.length : Int)), cond_false]
  rw [List.take_of_length_le (by omega)] at hn
  exact ⟨none, rfl, by unfold At; rw [hn]⟩
 | succ d ih =>
  intro i j hi hj hn
  obtain ⟨j, rfl⟩ : ∃ q, j = q + 1 := ⟨j - 1, by omega⟩
  have hl : (p ++ t).length = p.length + t.length := List.length_append
  rw [f_u82_2, decide_eq_true (by omega : (i : Int) < (p.length : Int)), cond_true, if_pos ⟨by omega, by omega⟩, Int.toNat_natCast, getD_app _ _ _ _ (by omega)]
  have ht := take_snoc p i T2.dflt (by omega)
  by_cases h : (p.getD i T2.dflt).1 = id
  ·rw [show ((p.getD i T2.dflt).fst == id) = true from beq_iff_eq.2 h, cond_true]
   refine ⟨some (i : Int), rfl, ?_⟩
   have e : look p id = some (p.getD i T2.dflt) := by
    have e2 : look (p.drop i) id = some (p.getD i T2.dflt) := by
     rw [drop_cons' p i T2.dflt (by omega)]
     unfold look
     rw [List.find?_cons_of_pos (by exact beq_iff_eq.2 h)]
    have e3 := look_append (p.take i) (p.drop i) id
    rw [List.take_append_drop, hn, Option.none_or, e2] at e3
    exact e3
   unfold At
   rw [e]
   exact ⟨i, rfl, by omega, fun d => getD_any _ _ _ _ (by omega)⟩
  ·rw [show ((p.getD i T2.dflt).fst == id) = false from beq_false_of_ne h, cond_false, wrapS i (by omega)]
   refine ih (i + 1) j (by omega) (by omega) ?_
   rw [ht, look_append, hn, Option.none_or]
   unfold look
   simp only [List.find?_cons, List.find?_nil]
   rw [show ((p.getD i T2.dflt).1 == id) = false from beq_false_of_ne h]
theorem ref42_Index_s (k : Nat) (p t : List Ro) (id : Int) (hp : p.length ≤ 100000) (hk : p.length < k) : ∃ o : Option Int, f_u82 k (p ++ t) (p.length : Int) id = some (o.getD (-1)) ∧ v_u82 k (p ++ t) (p.length : Int) id = o.getD (-1) ∧ At p id o := by
 obtain ⟨o, h1, h2⟩ := ref42_Index_l k p t id hp p.length 0 k (by omega) (by omega) (by unfold look; rfl)
 exact ⟨o, h1, by unfold v_u82 f_u82; rw [show f_u82_2 k k (p ++ t) (p.length : Int) id 0 = _ from h1]; rfl, h2⟩
end Go.AM
namespace Go.AM
open Go Go.Proofs Go.IntKind
set_option linter.unusedVariables false
noncomputable section
abbrev R_u24 : Type := Bool
def res_u24 (r : R_u24) : AV := .r (.v (.bool r))
def bo_u24 (g_0 : Int) (g_1 : Int) (g_2 : List (T2).T) (g_3 : List ((I).T × (I).T)) (id_ : Int) (r : R_u24) : List (Nat × Blk) := [(0, .var 73 [.r (.v (.int .i64 g_0)), .r (.v (.int .i64 g_1)), .r (.ro T2 g_2), .own 1 0]), (0, .map false I I g_3)]
def args_u24 (g_0 : Int) (g_1 : Int) (g_2 : List (T2).T) (g_3 : List ((I).T × (I).T)) (id_ : Int) : List AV := [.ptr 0 0 0, .r (.v (.int .i64 id_))]
def bin_u24 (g_0 : Int) (g_1 : Int) (g_2 : List (T2).T) (g_3 : List ((I).T × (I).T)) (id_ : Int) : List Blk := [.var 73 [.r (.v (.int .i64 g_0)), .r (.v (.int .i64 g_1)), .r (.ro T2 g_2), .own 1 0], .map false I I g_3]
def f_u24 (k : Nat) (g_0 : Int) (g_1 : Int) (g_2 : List (T2).T) (g_3 : List ((I).T × (I).T)) (id_ : Int) : Option R_u24 :=
 some ((mget I id_ g_3).isSome)
def v_u24 (k : Nat) (g_0 : Int) (g_1 : Int) (g_2 : List (T2).T) (g_3 : List ((I).T × (I).T)) (id_ : Int) : R_u24 := (f_u24 k g_0 g_1 g_2 g_3 id_).getD false
def K_u24 (k : Nat) : Calld := ⟨fun g xs => match g with
 | _ => none, fun g xs bs => match g with
 | _ => none⟩
theorem of_u24 (k : Nat) (g_0 : Int) (g_1 : Int) (g_2 : List (T2).T) (g_3 : List ((I).T × (I).T)) (id_ : Int) (r : R_u24) (h : f_u24 k g_0 g_1 g_2 g_3 id_ = some r) : CC Tryz.prog 49 (args_u24 g_0 g_1 g_2 g_3 id_) (bin_u24 g_0 g_1 g_2 g_3 id_) (res_u24 r) (bo_u24 g_0 g_1 g_2 g_3 id_ r) := by
 refine CC.of (fn := Tryz.f49) (by kernel_rfl) (by kernel_rfl) (by kernel_rfl) (by kernel_rfl) ?_
 unfold f_u24 at h
 refine Ev.tree hm (R := Rt) (K := (K_u24 k)) (l := []) (C := []) (E := [.autoB [4] true []]) (n := 1000) (T := .leaf (res_u24 ((mget I id_ g_3).isSome)) (bo_u24 g_0 g_1 g_2 g_3 id_ ((mget I id_ g_3).isSome))) (by kernel_rfl) ?_
 cases h; exact ⟨rfl, rfl⟩
theorem cc_u24 (k : Nat) (g_0 : Int) (g_1 : Int) (g_2 : List (T2).T) (g_3 : List ((I).T × (I).T)) (id_ : Int) (h : (f_u24 k g_0 g_1 g_2 g_3 id_).isSome = true) : CC Tryz.prog 49 (args_u24 g_0 g_1 g_2 g_3 id_) (bin_u24 g_0 g_1 g_2 g_3 id_) (res_u24 (v_u24 k g_0 g_1 g_2 g_3 id_)) (bo_u24 g_0 g_1 g_2 g_3 id_ (v_u24 k g_0 g_1 g_2 g_3 id_)) := by
 cases e : f_u24 k g_0 g_1 g_2 g_3 id_ with
 | none => rw [e] at h; cases h
 | some r => rw [show v_u24 k g_0 g_1 g_2 g_3 id_ = r by simp [v_u24, e]]; exact of_u24 k g_0 g_1 g_2 g_3 id_ r e

end
end Go.AM
namespace Go.AM
open Go Go.Proofs Go.IntKind
set_option linter.unusedVariables false
noncomputable section
abbrev R_u27 : Type := Int × Int
def res_u27 (r : R_u27) : AV := .tup [.r (.v (.int .i64 r.1)), .r (.v (.int .i64 r.2))]
def bo_u27 (g_0 : Int) (g_1 : Int) (g_2 : List (T2).T) (g_3 : List ((I).T × (I).T)) (id_ : Int) (r : R_u27) : List (Nat × Blk) := [(0, .var 73 [.r (.v (.int .i64 g_0)), .r (.v (.int .i64 g_1)), .r (.ro T2 g_2), .own 1 0]), (0, .map false I I g_3)]
def args_u27 (g_0 : Int) (g_1 : Int) (g_2 : List (T2).T) (g_3 : List ((I).T × (I).T)) (id_ : Int) : List AV := [.ptr 0 0 0, .r (.v (.int .i64 id_))]
def bin_u27 (g_0 : Int) (g_1 : Int) (g_2 : List (T2).T) (g_3 : List ((I).T × (I).T)) (id_ : Int) : List Blk := [.var 73 [.r (.v (.int .i64 g_0)), .r (.v (.int .i64 g_1)), .r (.ro T2 g_2), .own 1 0], .map false I I g_3]
def f_u27 (k : Nat) (g_0 : Int) (g_1 : Int) (g_2 : List (T2).T) (g_3 : List ((I).T × (I).T)) (id_ : Int) : Option R_u27 :=
 bif (id_ == (0 : Int)) then
 some ((g_0, g_1))
 else
 if ((0 : Int) ≤ (mget I id_ g_3).getD (0 : Int)) ∧ ((mget I id_ g_3).getD (0 : Int) < (↑g_2.length : Int)) then
 if ((f_u36 k (g_2.getD (Int.toNat ((mget I id_ g_3).getD 0)) T2.dflt).2.2.2.2.2).isSome = true) then
 some (((g_2.getD (Int.toNat ((mget I id_ g_3).getD 0)) T2.dflt).2.2.2.1, (v_u36 k (g_2.getD (Int.toNat ((mget I id_ g_3).getD 0)) T2.dflt).2.2.2.2.2).1))
 else none
 else none
def v_u27 (k : Nat) (g_0 : Int) (g_1 : Int) (g_2 : List (T2).T) (g_3 : List ((I).T × (I).T)) (id_ : Int) : R_u27 := (f_u27 k g_0 g_1 g_2 g_3 id_).getD (0, 0)
def K_u27 (k : Nat) : Calld := ⟨fun g xs => match g with
 | 63 => match xs with
  | [_] => some [false]
  | _ => none
 | _ => none, fun g xs bs => match g with
 | 63 => match xs, bs with
  | [.r (.ro tm__ qm_)], [] => (castL tm__ T0 qm_).bind fun m_ => some (.one (res_u36 (v_u36 k m_), bo_u36 m_ (v_u36 k m_)))
  | _, _ => none
 | _ => none⟩
theorem of_u27 (k : Nat) (g_0 : Int) (g_1 : Int) (g_2 : List (T2).T) (g_3 : List ((I).T × (I).T)) (id_ : Int) (r : R_u27) (h : f_u27 k g_0 g_1 g_2 g_3 id_ = some r) : CC Tryz.prog 42 (args_u27 g_0 g_1 g_2 g_3 id_) (bin_u27 g_0 g_1 g_2 g_3 id_) (res_u27 r) (bo_u27 g_0 g_1 g_2 g_3 id_ r) := by
 refine CC.of (fn := Tryz.f42) (by kernel_rfl) (by kernel_rfl) (by kernel_rfl) (by kernel_rfl) ?_
 unfold f_u27 at h
 refine Ev.tree hm (R := Rt) (K := (K_u27 k)) (l := []) (C := []) (E := [.autoB [4, 5] true []]) (n := 1000) (T := .test ((id_ == (0 : Int))) (.leaf (res_u27 ((g_0, g_1))) (bo_u27 g_0 g_1 g_2 g_3 id_ ((g_0, g_1)))) (.need [(0 : Int) ≤ (mget I id_ g_3).getD (0 : Int), (mget I id_ g_3).getD (0 : Int) < (↑g_2.length : Int)] (.need [CC Tryz.prog 63 (args_u36 (g_2.getD (Int.toNat ((mget I id_ g_3).getD 0)) T2.dflt).2.2.2.2.2) (bin_u36 (g_2.getD (Int.toNat ((mget I id_ g_3).getD 0)) T2.dflt).2.2.2.2.2) (res_u36 (v_u36 k (g_2.getD (Int.toNat ((mget I id_ g_3).getD 0)) T2.dflt).2.2.2.2.2)) (bo_u36 (g_2.getD (Int.toNat ((mget I id_ g_3).getD 0)) T2.dflt).2.2.2.2.2 (v_u36 k (g_2.getD (Int.toNat ((mget I id_ g_3).getD 0)) T2.dflt).2.2.2.2.2))] (.leaf (res_u27 (((g_2.getD (Int.toNat ((mget I id_ g_3).getD 0)) T2.dflt).2.2.2.1, (v_u36 k (g_2.getD (Int.toNat ((mget I id_ g_3).getD 0)) T2.dflt).2.2.2.2.2).1))) (bo_u27 g_0 g_1 g_2 g_3 id_ (((g_2.getD (Int.toNat ((mget I id_ g_3).getD 0)) T2.dflt).2.2.2.1, (v_u36 k (g_2.getD (Int.toNat ((mget I id_ g_3).getD 0)) T2.dflt).2.2.2.2.2).1))))))) (by kernel_rfl) ?_
 refine ⟨fun c => ?_, fun c => ?_⟩
 ·rw [cond_t (show ((id_ == (0 : Int))) = true from c)] at h
  cases h; exact ⟨rfl, rfl⟩
 ·rw [cond_f (show ((id_ == (0 : Int))) = false from c)] at h
  by_cases q : ((0 : Int) ≤ (mget I id_ g_3).getD (0 : Int)) ∧ ((mget I id_ g_3).getD (0 : Int) < (↑g_2.length : Int))
  ·rw [if_pos q] at h
   refine ⟨(conjC q.1 (conjC q.2 conj0)), ?_⟩
   by_cases q : ((f_u36 k (g_2.getD (Int.toNat ((mget I id_ g_3).getD 0)) T2.dflt).2.2.2.2.2).isSome = true)
   ·rw [if_pos q] at h
    refine ⟨(conjC (cc_u36 k (g_2.getD (Int.toNat ((mget I id_ g_3).getD 0)) T2.dflt).2.2.2.2.2 q) conj0), ?_⟩
    cases h; exact ⟨rfl, rfl⟩
   ·rw [if_neg q] at h; cases h
  ·rw [if_neg q] at h; cases h
theorem cc_u27 (k : Nat) (g_0 : Int) (g_1 : Int) (g_2 : List (T2).T) (g_3 : List ((I).T × (I).T)) (id_ : Int) (h : (f_u27 k g_0 g_1 g_2 g_3 id_).isSome = true) : CC Tryz.prog 42 (args_u27 g_0 g_1 g_2 g_3 id_) (bin_u27 g_0 g_1 g_2 g_3 id_) (res_u27 (v_u27 k g_0 g_1 g_2 g_3 id_)) (bo_u27 g_0 g_1 g_2 g_3 id_ (v_u27 k g_0 g_1 g_2 g_3 id_)) := by
 cases e : f_u27 k g_0 g_1 g_2 g_3 id_ with
 | none => rw [e] at h; cases h
 | some r => rw [show v_u27 k g_0 g_1 g_2 g_3 id_ = r by simp [v_u27, e]]; exact of_u27 k g_0 g_1 g_2 g_3 id_ r e

end
end Go.AM
namespace Go.AM
open Go Go.Proofs Go.IntKind
set_option linter.unusedVariables false
noncomputable section
abbrev R_u23 : Type := Int
def res_u23 (r : R_u23) : AV := .r (.v (.int .i64 r))
def bo_u23 (g_0 : Int) (g_1 : Int) (g_2 : List (T2).T) (g_3 : List ((I).T × (I).T)) (r_ : T2.T) (r : R_u23) : List (Nat × Blk) := [(0, .var 73 [.r (.v (.int .i64 g_0)), .r (.v (.int .i64 g_1)), .r (.ro T2 g_2), .own 1 0]), (0, .map false I I g_3)]
def args_u23 (g_0 : Int) (g_1 : Int) (g_2 : List (T2).T) (g_3 : List ((I).T × (I).T)) (r_ : T2.T) : List AV := [.ptr 0 0 0, .agg (rvs (enc T2 r_))]
def bin_u23 (g_0 : Int) (g_1 : Int) (g_2 : List (T2).T) (g_3 : List ((I).T × (I).T)) (r_ : T2.T) : List Blk := [.var 73 [.r (.v (.int .i64 g_0)), .r (.v (.int .i64 g_1)), .r (.ro T2 g_2), .own 1 0], .map false I I g_3]
def st_u23_17 (g_0 : Int) (g_1 : Int) (g_2 : List (T2).T) (g_3 : List ((I).T × (I).T)) (r_ : T2.T) (y0 : Int) (y1 : List (T0).T) (y2 : Int) (y3 : Int) : St := ⟨mkS 93 [(6, .r (.v (.int .i64 y0))), (78, .r (.ro T0 y1)), (79, .r (.v (.int .i64 y2))), (80, .r (.v (.int .i64 y3)))], [(0, 0, .var 73 [.r (.v (.int .i64 g_0)), .r (.v (.int .i64 g_1)), .r (.ro T2 g_2), .own 1 0]), (1, 0, .map false I I g_3)]⟩
def f_u23_17 (k : Nat) (g_0 : Int) (g_1 : Int) (g_2 : List (T2).T) (g_3 : List ((I).T × (I).T)) (r_ : T2.T) : Nat → Int → List (T0).T → Int → Int → Option R_u23
 | 0, _, _, _, _ => none
 | j + 1, y0, y1, y2, y3 =>
 bif (decide (y3 < y2)) then
 if (0 ≤ y3) ∧ (y3 < (↑y1.length : Int)) then
 if ((f_u12 k (y1.getD y3.toNat T0.dflt)).isSome = true) then
 bif (decide ((v_u12 k (y1.getD y3.toNat T0.dflt)).2 ≥ y0)) then
 some 21
 else
 f_u23_17 k g_0 g_1 g_2 g_3 r_ j y0 y1 y2 ((i64.wrap (y3 + 1)))
 else none
 else none
 else
 some 0
def f_u23 (k : Nat) (g_0 : Int) (g_1 : Int) (g_2 : List (T2).T) (g_3 : List ((I).T × (I).T)) (r_ : T2.T) : Option R_u23 :=
 bif (decide (r_.1 < (1 : Int)) || decide (r_.1 > (1000000 : Int))) then
 some 1
 else
 bif (r_.2.1 != (0 : Int)) then
 if ((r_.2.1 != (0 : Int)) = true) ∧ ((f_u24 k g_0 g_1 g_2 g_3 r_.2.1).isSome = true) then
 bif (true && (!v_u24 k g_0 g_1 g_2 g_3 r_.2.1)) then
 some 7
 else
 if ((f_u27 k g_0 g_1 g_2 g_3 r_.2.1).isSome = true) then
 bif (decide (r_.2.2.1 < (0 : Int)) || decide (r_.2.2.2.1 < (1 : Int)) || decide (r_.2.2.1 > (v_u27 k g_0 g_1 g_2 g_3 r_.2.1).1) || decide (r_.2.2.2.1 > i64.wrap ((v_u27 k g_0 g_1 g_2 g_3 r_.2.1).1 - r_.2.2.1))) then
 some 20
 else
 if ((f_u32 k r_.2.2.2.2.2).isSome = true) then
 bif (v_u32 k r_.2.2.2.2.2 != (0 : Int)) then
 some (v_u32 k r_.2.2.2.2.2)
 else
 bif ((↑ (List.length r_.2.2.2.2.2) : Int) == (0 : Int)) then
 some 10
 else
 if ((f_u37 k r_.2.2.2.2.2).isSome = true) then
 bif (!v_u37 k r_.2.2.2.2.2) then
 some 12
 else
 f_u23_17 k g_0 g_1 g_2 g_3 r_ k ((v_u27 k g_0 g_1 g_2 g_3 r_.2.1).2) r_.2.2.2.2.2 ((↑ (List.length r_.2.2.2.2.2) : Int)) 0
 else none
 else none
 else none
 else none
 else
 if ((r_.2.1 != (0 : Int)) = false) then
 if ((f_u27 k g_0 g_1 g_2 g_3 r_.2.1).isSome = true) then
 bif (decide (r_.2.2.1 < (0 : Int)) || decide (r_.2.2.2.1 < (1 : Int)) || decide (r_.2.2.1 > (v_u27 k g_0 g_1 g_2 g_3 r_.2.1).1) || decide (r_.2.2.2.1 > i64.wrap ((v_u27 k g_0 g_1 g_2 g_3 r_.2.1).1 - r_.2.2.1))) then
 some 20
 else
 if ((f_u32 k r_.2.2.2.2.2).isSome = true) then
 bif (v_u32 k r_.2.2.2.2.2 != (0 : Int)) then
 some (v_u32 k r_.2.2.2.2.2)
 else
 bif ((↑ (List.length r_.2.2.2.2.2) : Int) == (0 : Int)) then
 some 10
 else
 if ((f_u37 k r_.2.2.2.2.2).isSome = true) then
 bif (!v_u37 k r_.2.2.2.2.2) then
 some 12
 else
 f_u23_17 k g_0 g_1 g_2 g_3 r_ k ((v_u27 k g_0 g_1 g_2 g_3 r_.2.1).2) r_.2.2.2.2.2 ((↑ (List.length r_.2.2.2.2.2) : Int)) 0
 else none
 else none
 else none
 else none
def v_u23 (k : Nat) (g_0 : Int) (g_1 : Int) (g_2 : List (T2).T) (g_3 : List ((I).T × (I).T)) (r_ : T2.T) : R_u23 := (f_u23 k g_0 g_1 g_2 g_3 r_).getD 0
def K_u23 (k : Nat) : Calld := ⟨fun g xs => match g with
 | 68 => match xs with
  | [_] => some [false]
  | _ => none
 | 79 => match xs with
  | [_] => some [false]
  | _ => none
 | 65 => match xs with
  | [_] => some [false]
  | _ => none
 | 42 => match xs with
  | [.ptr _ _ _, _] => some [true, false]
  | _ => none
 | 49 => match xs with
  | [.ptr _ _ _, _] => some [true, false]
  | _ => none
 | _ => none, fun g xs bs => match g with
 | 68 => match xs, bs with
  | [.r (.ro tm__ qm_)], [] => (castL tm__ T0 qm_).bind fun m_ => some (.one (res_u32 (v_u32 k m_), bo_u32 m_ (v_u32 k m_)))
  | _, _ => none
 | 79 => match xs, bs with
  | [.r (.ro tm__ qm_)], [] => (castL tm__ T0 qm_).bind fun m_ => some (.one (res_u37 (v_u37 k m_), bo_u37 m_ (v_u37 k m_)))
  | _, _ => none
 | 65 => match xs, bs with
  | [.agg qx_], [] => (decS [] T0 qx_).bind fun x_ => some (.one (res_u12 (v_u12 k x_), bo_u12 x_ (v_u12 k x_)))
  | _, _ => none
 | 42 => match xs, bs with
  | [.ptr 0 0 0, .r (.v (.int .i64 id_))], [.var 73 [.r (.v (.int .i64 g_0)), .r (.v (.int .i64 g_1)), .r (.ro tg_2_ qg_2), .own 1 0], .map false kg_3_ tg_3_ qg_3] => (castL tg_2_ T2 qg_2).bind fun g_2 => (castM kg_3_ tg_3_ I I qg_3).bind fun g_3 => some (.one (res_u27 (v_u27 k g_0 g_1 g_2 g_3 id_), bo_u27 g_0 g_1 g_2 g_3 id_ (v_u27 k g_0 g_1 g_2 g_3 id_)))
  | _, _ => none
 | 49 => match xs, bs with
  | [.ptr 0 0 0, .r (.v (.int .i64 id_))], [.var 73 [.r (.v (.int .i64 g_0)), .r (.v (.int .i64 g_1)), .r (.ro tg_2_ qg_2), .own 1 0], .map false kg_3_ tg_3_ qg_3] => (castL tg_2_ T2 qg_2).bind fun g_2 => (castM kg_3_ tg_3_ I I qg_3).bind fun g_3 => some (.one (res_u24 (v_u24 k g_0 g_1 g_2 g_3 id_), bo_u24 g_0 g_1 g_2 g_3 id_ (v_u24 k g_0 g_1 g_2 g_3 id_)))
  | _, _ => none
 | _ => none⟩
theorem ev_u23 (k : Nat) (g_0 : Int) (g_1 : Int) (g_2 : List (T2).T) (g_3 : List ((I).T × (I).T)) (r_ : T2.T) : ∀ j, (∀ (y0 : Int) (y1 : List (T0).T) (y2 : Int) (y3 : Int) (r : R_u23), f_u23_17 k g_0 g_1 g_2 g_3 r_ j y0 y1 y2 y3 = some r → Ev Tryz.prog Tryz.f59 2 (placeAt Tryz.f59 17) (st_u23_17 g_0 g_1 g_2 g_3 r_ y0 y1 y2 y3) (res_u23 r) (bo_u23 g_0 g_1 g_2 g_3 r_ r))
 | 0 => by
  intros; rename_i h; simp [f_u23_17] at h
 | j + 1 => by
  have ih := ev_u23 k g_0 g_1 g_2 g_3 r_ j
  ·intro y0 y1 y2 y3 r h
   rw [f_u23_17] at h
   refine Ev.tree hm (R := Rt) (K := (K_u23 k)) (l := []) (C := [(17, [.autoB [6, 78, 79, 80] false []])]) (E := [.autoB [4] true []]) (n := 1000) (T := .test ((decide (y3 < y2))) (.need [0 ≤ y3, y3 < (↑y1.length : Int)] (.need [CC Tryz.prog 65 (args_u12 (y1.getD y3.toNat T0.dflt)) (bin_u12 (y1.getD y3.toNat T0.dflt)) (res_u12 (v_u12 k (y1.getD y3.toNat T0.dflt))) (bo_u12 (y1.getD y3.toNat T0.dflt) (v_u12 k (y1.getD y3.toNat T0.dflt)))] (.test ((decide ((v_u12 k (y1.getD y3.toNat T0.dflt)).2 ≥ y0))) (.leaf (res_u23 21) (bo_u23 g_0 g_1 g_2 g_3 r_ 21)) (.cut 17 (placeAt Tryz.f59 17) (st_u23_17 g_0 g_1 g_2 g_3 r_ y0 y1 y2 ((i64.wrap (y3 + 1)))))))) (.leaf (res_u23 0) (bo_u23 g_0 g_1 g_2 g_3 r_ 0))) (by kernel_rfl) ?_
   refine ⟨fun c => ?_, fun c => ?_⟩
   ·rw [cond_t (show ((decide (y3 < y2))) = true from c)] at h
    by_cases q : (0 ≤ y3) ∧ (y3 < (↑y1.length : Int))
    ·rw [if_pos q] at h
     refine ⟨(conjC q.1 (conjC q.2 conj0)), ?_⟩
     by_cases q : ((f_u12 k (y1.getD y3.toNat T0.dflt)).isSome = true)
     ·rw [if_pos q] at h
      refine ⟨(conjC (cc_u12 k (y1.getD y3.toNat T0.dflt) q) conj0), ?_⟩
      refine ⟨fun c => ?_, fun c => ?_⟩
      ·rw [cond_t (show ((decide ((v_u12 k (y1.getD y3.toNat T0.dflt)).2 ≥ y0))) = true from c)] at h
       cases h; exact ⟨rfl, rfl⟩
      ·rw [cond_f (show ((decide ((v_u12 k (y1.getD y3.toNat T0.dflt)).2 ≥ y0))) = false from c)] at h
       exact ih y0 y1 y2 ((i64.wrap (y3 + 1))) _ h
     ·rw [if_neg q] at h; cases h
    ·rw [if_neg q] at h; cases h
   ·rw [cond_f (show ((decide (y3 < y2))) = false from c)] at h
    cases h; exact ⟨rfl, rfl⟩
theorem of_u23 (k : Nat) (g_0 : Int) (g_1 : Int) (g_2 : List (T2).T) (g_3 : List ((I).T × (I).T)) (r_ : T2.T) (r : R_u23) (h : f_u23 k g_0 g_1 g_2 g_3 r_ = some r) : CC Tryz.prog 59 (args_u23 g_0 g_1 g_2 g_3 r_) (bin_u23 g_0 g_1 g_2 g_3 r_) (res_u23 r) (bo_u23 g_0 g_1 g_2 g_3 r_ r) := by
 refine CC.of (fn := Tryz.f59) (by kernel_rfl) (by kernel_rfl) (by kernel_rfl) (by kernel_rfl) ?_
 unfold f_u23 at h
 refine Ev.tree hm (R := Rt) (K := (K_u23 k)) (l := []) (C := [(17, [.autoB [6, 78, 79, 80] false []])]) (E := [.autoB [4] true []]) (n := 1000) (T := .test ((decide (r_.1 < (1 : Int)) || decide (r_.1 > (1000000 : Int)))) (.leaf (res_u23 1) (bo_u23 g_0 g_1 g_2 g_3 r_ 1)) (.test ((r_.2.1 != (0 : Int))) (.need [(r_.2.1 != (0 : Int)) = true, CC Tryz.prog 49 (args_u24 g_0 g_1 g_2 g_3 r_.2.1) (bin_u24 g_0 g_1 g_2 g_3 r_.2.1) (res_u24 (v_u24 k g_0 g_1 g_2 g_3 r_.2.1)) (bo_u24 g_0 g_1 g_2 g_3 r_.2.1 (v_u24 k g_0 g_1 g_2 g_3 r_.2.1))] (.test ((true && (!v_u24 k g_0 g_1 g_2 g_3 r_.2.1))) (.leaf (res_u23 7) (bo_u23 g_0 g_1 g_2 g_3 r_ 7)) (.need [CC Tryz.prog 42 (args_u27 g_0 g_1 g_2 g_3 r_.2.1) (bin_u27 g_0 g_1 g_2 g_3 r_.2.1) (res_u27 (v_u27 k g_0 g_1 g_2 g_3 r_.2.1)) (bo_u27 g_0 g_1 g_2 g_3 r_.2.1 (v_u27 k g_0 g_1 g_2 g_3 r_.2.1))] (.test ((decide (r_.2.2.1 < (0 : Int)) || decide (r_.2.2.2.1 < (1 : Int)) || decide (r_.2.2.1 > (v_u27 k g_0 g_1 g_2 g_3 r_.2.1).1) || decide (r_.2.2.2.1 > i64.wrap ((v_u27 k g_0 g_1 g_2 g_3 r_.2.1).1 - r_.2.2.1)))) (.leaf (res_u23 20) (bo_u23 g_0 g_1 g_2 g_3 r_ 20)) (.need [CC Tryz.prog 68 (args_u32 r_.2.2.2.2.2) (bin_u32 r_.2.2.2.2.2) (res_u32 (v_u32 k r_.2.2.2.2.2)) (bo_u32 r_.2.2.2.2.2 (v_u32 k r_.2.2.2.2.2))] (.test ((v_u32 k r_.2.2.2.2.2 != (0 : Int))) (.leaf (res_u23 (v_u32 k r_.2.2.2.2.2)) (bo_u23 g_0 g_1 g_2 g_3 r_ (v_u32 k r_.2.2.2.2.2))) (.test (((↑ (List.length r_.2.2.2.2.2) : Int) == (0 : Int))) (.leaf (res_u23 10) (bo_u23 g_0 g_1 g_2 g_3 r_ 10)) (.need [CC Tryz.prog 79 (args_u37 r_.2.2.2.2.2) (bin_u37 r_.2.2.2.2.2) (res_u37 (v_u37 k r_.2.2.2.2.2)) (bo_u37 r_.2.2.2.2.2 (v_u37 k r_.2.2.2.2.2))] (.test ((!v_u37 k r_.2.2.2.2.2)) (.leaf (res_u23 12) (bo_u23 g_0 g_1 g_2 g_3 r_ 12)) (.cut 17 (placeAt Tryz.f59 17) (st_u23_17 g_0 g_1 g_2 g_3 r_ ((v_u27 k g_0 g_1 g_2 g_3 r_.2.1).2) r_.2.2.2.2.2 ((↑ (List.length r_.2.2.2.2.2) : Int)) 0))))))))))) (.need [(r_.2.1 != (0 : Int)) = false] (.test (false) (.leaf (.r (.v (.int .i64 7))) [(0, .var 73 [.r (.v (.int .i64 g_0)), .r (.v (.int .i64 g_1)), .r (.ro T2 g_2), .own 1 0]), (0, .map false I I g_3)]) (.need [CC Tryz.prog 42 (args_u27 g_0 g_1 g_2 g_3 r_.2.1) (bin_u27 g_0 g_1 g_2 g_3 r_.2.1) (res_u27 (v_u27 k g_0 g_1 g_2 g_3 r_.2.1)) (bo_u27 g_0 g_1 g_2 g_3 r_.2.1 (v_u27 k g_0 g_1 g_2 g_3 r_.2.1))] (.test ((decide (r_.2.2.1 < (0 : Int)) || decide (r_.2.2.2.1 < (1 : Int)) || decide (r_.2.2.1 > (v_u27 k g_0 g_1 g_2 g_3 r_.2.1).1) || decide (r_.2.2.2.1 > i64.wrap ((v_u27 k g_0 g_1 g_2 g_3 r_.2.1).1 - r_.2.2.1)))) (.leaf (res_u23 20) (bo_u23 g_0 g_1 g_2 g_3 r_ 20)) (.need [CC Tryz.prog 68 (args_u32 r_.2.2.2.2.2) (bin_u32 r_.2.2.2.2.2) (res_u32 (v_u32 k r_.2.2.2.2.2)) (bo_u32 r_.2.2.2.2.2 (v_u32 k r_.2.2.2.2.2))] (.test ((v_u32 k r_.2.2.2.2.2 != (0 : Int))) (.leaf (res_u23 (v_u32 k r_.2.2.2.2.2)) (bo_u23 g_0 g_1 g_2 g_3 r_ (v_u32 k r_.2.2.2.2.2))) (.test (((↑ (List.length r_.2.2.2.2.2) : Int) == (0 : Int))) (.leaf (res_u23 10) (bo_u23 g_0 g_1 g_2 g_3 r_ 10)) (.need [CC Tryz.prog 79 (args_u37 r_.2.2.2.2.2) (bin_u37 r_.2.2.2.2.2) (res_u37 (v_u37 k r_.2.2.2.2.2)) (bo_u37 r_.2.2.2.2.2 (v_u37 k r_.2.2.2.2.2))] (.test ((!v_u37 k r_.2.2.2.2.2)) (.leaf (res_u23 12) (bo_u23 g_0 g_1 g_2 g_3 r_ 12)) (.cut 17 (placeAt Tryz.f59 17) (st_u23_17 g_0 g_1 g_2 g_3 r_ ((v_u27 k g_0 g_1 g_2 g_3 r_.2.1).2) r_.2.2.2.2.2 ((↑ (List.length r_.2.2.2.2.2) : Int)) 0))))))))))))) (by kernel_rfl) ?_
 refine ⟨fun c => ?_, fun c => ?_⟩
 ·rw [cond_t (show ((decide (r_.1 < (1 : Int)) || decide (r_.1 > (1000000 : Int)))) = true from c)] at h
  cases h; exact ⟨rfl, rfl⟩
 ·rw [cond_f (show ((decide (r_.1 < (1 : Int)) || decide (r_.1 > (1000000 : Int)))) = false from c)] at h
  refine ⟨fun c => ?_, fun c => ?_⟩
  ·rw [cond_t (show ((r_.2.1 != (0 : Int))) = true from c)] at h
   by_cases q : ((r_.2.1 != (0 : Int)) = true) ∧ ((f_u24 k g_0 g_1 g_2 g_3 r_.2.1).isSome = true)
   ·rw [if_pos q] at h
    refine ⟨(conjC q.1 (conjC (cc_u24 k g_0 g_1 g_2 g_3 r_.2.1 q.2) conj0)), ?_⟩
    refine ⟨fun c => ?_, fun c => ?_⟩
    ·rw [cond_t (show ((true && (!v_u24 k g_0 g_1 g_2 g_3 r_.2.1))) = true from c)] at h
     cases h; exact ⟨rfl, rfl⟩
    ·rw [cond_f (show ((true && (!v_u24 k g_0 g_1 g_2 g_3 r_.2.1))) = false from c)] at h
     by_cases q : ((f_u27 k g_0 g_1 g_2 g_3 r_.2.1).isSome = true)
     ·rw [if_pos q] at h
      refine ⟨(conjC (cc_u27 k g_0 g_1 g_2 g_3 r_.2.1 q) conj0), ?_⟩
      refine ⟨fun c => ?_, fun c => ?_⟩
      ·rw [cond_t (show ((decide (r_.2.2.1 < (0 : Int)) || decide (r_.2.2.2.1 < (1 : Int)) || decide (r_.2.2.1 > (v_u27 k g_0 g_1 g_2 g_3 r_.2.1).1) || decide (r_.2.2.2.1 > i64.wrap ((v_u27 k g_0 g_1 g_2 g_3 r_.2.1).1 - r_.2.2.1)))) = true from c)] at h
       cases h; exact ⟨rfl, rfl⟩
      ·rw [cond_f (show ((decide (r_.2.2.1 < (0 : Int)) || decide (r_.2.2.2.1 < (1 : Int)) || decide (r_.2.2.1 > (v_u27 k g_0 g_1 g_2 g_3 r_.2.1).1) || decide (r_.2.2.2.1 > i64.wrap ((v_u27 k g_0 g_1 g_2 g_3 r_.2.1).1 - r_.2.2.1)))) = false from c)] at h
       by_cases q : ((f_u32 k r_.2.2.2.2.2).isSome = true)
       ·rw [if_pos q] at h
        refine ⟨(conjC (cc_u32 k r_.2.2.2.2.2 q) conj0), ?_⟩
        refine ⟨fun c => ?_, fun c => ?_⟩
        ·rw [cond_t (show ((v_u32 k r_.2.2.2.2.2 != (0 : Int))) = true from c)] at h
         cases h; exact ⟨rfl, rfl⟩
        ·rw [cond_f (show ((v_u32 k r_.2.2.2.2.2 != (0 : Int))) = false from c)] at h
         refine ⟨fun c => ?_, fun c => ?_⟩
         ·rw [cond_t (show (((↑ (List.length r_.2.2.2.2.2) : Int) == (0 : Int))) = true from c)] at h
          cases h; exact ⟨rfl, rfl⟩
         ·rw [cond_f (show (((↑ (List.length r_.2.2.2.2.2) : Int) == (0 : Int))) = false from c)] at h
          by_cases q : ((f_u37 k r_.2.2.2.2.2).isSome = true)
          ·rw [if_pos q] at h
           refine ⟨(conjC (cc_u37 k r_.2.2.2.2.2 q) conj0), ?_⟩
           refine ⟨fun c => ?_, fun c => ?_⟩
           ·rw [cond_t (show ((!v_u37 k r_.2.2.2.2.2)) = true from c)] at h
            cases h; exact ⟨rfl, rfl⟩
           ·rw [cond_f (show ((!v_u37 k r_.2.2.2.2.2)) = false from c)] at h
            exact (ev_u23 k g_0 g_1 g_2 g_3 r_ k) ((v_u27 k g_0 g_1 g_2 g_3 r_.2.1).2) r_.2.2.2.2.2 ((↑ (List.length r_.2.2.2.2.2) : Int)) 0 _ h
          ·rw [if_neg q] at h; cases h
       ·rw [if_neg q] at h; cases h
     ·rw [if_neg q] at h; cases h
   ·rw [if_neg q] at h; cases h
  ·rw [cond_f (show ((r_.2.1 != (0 : Int))) = false from c)] at h
   by_cases q : ((r_.2.1 != (0 : Int)) = false)
   ·rw [if_pos q] at h
    refine ⟨(conjC q conj0), ?_⟩
    refine ⟨fun c => ?_, fun c => ?_⟩
    ·cases c
    by_cases q : ((f_u27 k g_0 g_1 g_2 g_3 r_.2.1).isSome = true)
    ·rw [if_pos q] at h
     refine ⟨(conjC (cc_u27 k g_0 g_1 g_2 g_3 r_.2.1 q) conj0), ?_⟩
     refine ⟨fun c => ?_, fun c => ?_⟩
     ·rw [cond_t (show ((decide (r_.2.2.1 < (0 : Int)) || decide (r_.2.2.2.1 < (1 : Int)) || decide (r_.2.2.1 > (v_u27 k g_0 g_1 g_2 g_3 r_.2.1).1) || decide (r_.2.2.2.1 > i64.wrap ((v_u27 k g_0 g_1 g_2 g_3 r_.2.1).1 - r_.2.2.1)))) = true from c)] at h
      cases h; exact ⟨rfl, rfl⟩
     ·rw [cond_f (show ((decide (r_.2.2.1 < (0 : Int)) || decide (r_.2.2.2.1 < (1 : Int)) || decide (r_.2.2.1 > (v_u27 k g_0 g_1 g_2 g_3 r_.2.1).1) || decide (r_.2.2.2.1 > i64.wrap ((v_u27 k g_0 g_1 g_2 g_3 r_.2.1).1 - r_.2.2.1)))) = false from c)] at h
      by_cases q : ((f_u32 k r_.2.2.2.2.2).isSome = true)
      ·rw [if_pos q] at h
       refine ⟨(conjC (cc_u32 k r_.2.2.2.2.2 q) conj0), ?_⟩
       refine ⟨fun c => ?_, fun c => ?_⟩
       ·rw [cond_t (show ((v_u32 k r_.2.2.2.2.2 != (0 : Int))) = true from c)] at h
        cases h; exact ⟨rfl, rfl⟩
       ·rw [cond_f (show ((v_u32 k r_.2.2.2.2.2 != (0 : Int))) = false from c)] at h
        refine ⟨fun c => ?_, fun c => ?_⟩
        ·rw [cond_t (show (((↑ (List.length r_.2.2.2.2.2) : Int) == (0 : Int))) = true from c)] at h
         cases h; exact ⟨rfl, rfl⟩
        ·rw [cond_f (show (((↑ (List.length r_.2.2.2.2.2) : Int) == (0 : Int))) = false from c)] at h
         by_cases q : ((f_u37 k r_.2.2.2.2.2).isSome = true)
         ·rw [if_pos q] at h
          refine ⟨(conjC (cc_u37 k r_.2.2.2.2.2 q) conj0), ?_⟩
          refine ⟨fun c => ?_, fun c => ?_⟩
          ·rw [cond_t (show ((!v_u37 k r_.2.2.2.2.2)) = true from c)] at h
           cases h; exact ⟨rfl, rfl⟩
          ·rw [cond_f (show ((!v_u37 k r_.2.2.2.2.2)) = false from c)] at h
           exact (ev_u23 k g_0 g_1 g_2 g_3 r_ k) ((v_u27 k g_0 g_1 g_2 g_3 r_.2.1).2) r_.2.2.2.2.2 ((↑ (List.length r_.2.2.2.2.2) : Int)) 0 _ h
         ·rw [if_neg q] at h; cases h
      ·rw [if_neg q] at h; cases h
    ·rw [if_neg q] at h; cases h
   ·rw [if_neg q] at h; cases h
theorem cc_u23 (k : Nat) (g_0 : Int) (g_1 : Int) (g_2 : List (T2).T) (g_3 : List ((I).T × (I).T)) (r_ : T2.T) (h : (f_u23 k g_0 g_1 g_2 g_3 r_).isSome = true) : CC Tryz.prog 59 (args_u23 g_0 g_1 g_2 g_3 r_) (bin_u23 g_0 g_1 g_2 g_3 r_) (res_u23 (v_u23 k g_0 g_1 g_2 g_3 r_)) (bo_u23 g_0 g_1 g_2 g_3 r_ (v_u23 k g_0 g_1 g_2 g_3 r_)) := by
 cases e : f_u23 k g_0 g_1 g_2 g_3 r_ with
 | none => rw [e] at h; cases h
 | some r => rw [show v_u23 k g_0 g_1 g_2 g_3 r_ = r by simp [v_u23, e]]; exact of_u23 k g_0 g_1 g_2 g_3 r_ r e

end
end Go.AM
