/- Contracts of the functions that the law reaches, and the plain law. -/
import Derived.Test.YticaonjigdicfaaDoorLibb
import Derived.Test.YticaonjigdicfaaDoorProg
import Derived.KernelRfl
namespace Go.AM
open Go Go.Proofs
set_option linter.unusedVariables false
noncomputable section
theorem cond_t {α : Type} {b : Bool} {x y : α} (c : b = true) : cond b x y = x := by subst c; rfl
theorem cond_f {α : Type} {b : Bool} {x y : α} (c : b = false) : cond b x y = y := by subst c; rfl
abbrev I : RTy := .int .i64
abbrev t7 : RTy := (.pair I (.pair I (.pair .bool (.int .u8))))
abbrev t8 : RTy := (.pair I (.pair I (.pair .bool (.int .u8))))
abbrev t13 : RTy := (.pair .str (.int .u64))
abbrev t14 : RTy := (.pair .str (.int .u64))
abbrev t33 : RTy := (.pair I I)
abbrev t34 : RTy := (.pair I I)
abbrev t50 : RTy := (.pair I (.pair I I))
abbrev t53 : RTy := (.pair .str (.pair .str (.pair .str .str)))
abbrev t54 : RTy := (.pair I (.pair I (.pair I I)))
abbrev t58 : RTy := (.pair (.int .u8) (.pair (.int .u8) (.pair (.int .u8) (.pair (.int .u8) (.pair (.int .u8) (.pair (.int .u8) (.pair (.int .u8) (.pair (.int .u8) (.pair (.int .u8) (.pair (.int .u8) (.pair (.int .u8) (.pair (.int .u8) (.pair (.int .u8) (.pair (.int .u8) (.pair (.int .u8) (.pair (.int .u8) (.pair (.int .u8) (.pair (.int .u8) (.pair (.int .u8) (.pair (.int .u8) (.pair (.int .u8) (.pair (.int .u8) (.pair (.int .u8) (.int .u8))))))))))))))))))))))))
abbrev t67 : RTy := (.pair (.int .u64) (.pair (.int .u64) (.pair (.int .u64) (.pair (.int .u64) (.pair (.int .u64) (.pair (.int .u64) (.pair (.int .u64) (.pair (.int .u64) (.pair (.int .u64) (.pair (.int .u64) (.pair (.int .u64) (.pair (.int .u64) (.pair (.int .u64) (.pair (.int .u64) (.pair (.int .u64) (.pair (.int .u64) (.pair (.int .u64) (.pair (.int .u64) (.pair (.int .u64) (.int .u64))))))))))))))))))))
abbrev t73 : RTy := (.pair (.int .u8) (.pair (.int .u8) (.pair (.int .u8) (.pair (.int .u8) (.pair (.int .u8) (.pair (.int .u8) (.pair (.int .u8) (.pair (.int .u8) (.pair (.int .u8) (.pair (.int .u8) (.pair (.int .u8) (.pair (.int .u8) (.pair (.int .u8) (.pair (.int .u8) (.pair (.int .u8) (.pair (.int .u8) (.pair (.int .u8) (.pair (.int .u8) (.pair (.int .u8) (.pair (.int .u8) (.pair (.int .u8) (.pair (.int .u8) (.pair (.int .u8) (.pair (.int .u8) (.pair (.int .u8) (.pair (.int .u8) (.pair (.int .u8) (.pair (.int .u8) (.pair (.int .u8) (.pair (.int .u8) (.pair (.int .u8) (.int .u8))))))))))))))))))))))))))))))))
abbrev t74 : RTy := (.pair (.int .u8) (.pair (.int .u8) (.pair (.int .u8) (.pair (.int .u8) (.pair (.int .u8) (.pair (.int .u8) (.pair (.int .u8) (.pair (.int .u8) (.pair (.int .u8) (.pair (.int .u8) (.pair (.int .u8) (.pair (.int .u8) (.pair (.int .u8) (.pair (.int .u8) (.pair (.int .u8) (.pair (.int .u8) (.pair (.int .u8) (.pair (.int .u8) (.pair (.int .u8) (.pair (.int .u8) (.pair (.int .u8) (.pair (.int .u8) (.pair (.int .u8) (.pair (.int .u8) (.pair (.int .u8) (.pair (.int .u8) (.pair (.int .u8) (.pair (.int .u8) (.pair (.int .u8) (.pair (.int .u8) (.pair (.int .u8) (.pair (.int .u8) (.pair (.int .u8) (.pair (.int .u8) (.pair (.int .u8) (.pair (.int .u8) (.pair (.int .u8) (.pair (.int .u8) (.pair (.int .u8) (.pair (.int .u8) (.pair (.int .u8) (.pair (.int .u8) (.pair (.int .u8) (.pair (.int .u8) (.pair (.int .u8) (.pair (.int .u8) (.pair (.int .u8) (.pair (.int .u8) (.pair (.int .u8) (.pair (.int .u8) (.pair (.int .u8) (.pair (.int .u8) (.pair (.int .u8) (.pair (.int .u8) (.pair (.int .u8) (.pair (.int .u8) (.pair (.int .u8) (.pair (.int .u8) (.pair (.int .u8) (.pair (.int .u8) (.pair (.int .u8) (.pair (.int .u8) (.pair (.int .u8) (.int .u8))))))))))))))))))))))))))))))))))))))))))))))))))))))))))))))))
abbrev t79 : RTy := .unit
abbrev t80 : RTy := .unit
def Rt : Tab := lookT [(1, .fn), (2, I), (3, I), (4, .bool), (5, (.int .u8)), (6, (.int .u8)), (7, t7), (8, t8), (9, .str), (10, .str), (11, .str), (12, (.int .u64)), (13, t13), (14, t14), (21, (.int .i32)), (22, I), (24, .fn), (25, .fn), (26, .fn), (27, (.list I)), (29, .fn), (30, .fn), (31, .fn), (32, .fn), (33, t33), (34, t34), (35, (.list t34)), (37, .fn), (38, .fn), (39, .fn), (40, .fn), (41, .fn), (42, .fn), (44, .fn), (45, .fn), (46, .fn), (47, .fn), (48, .fn), (49, .fn), (50, t50), (51, .fn), (52, .fn), (53, t53), (54, t54), (56, .fn), (57, .fn), (58, t58), (59, (.int .u64)), (60, .fn), (61, .fn), (62, (.list (.int .u8))), (64, .fn), (65, .fn), (66, .fn), (67, t67), (68, (.int .u32)), (70, (.int .u64)), (71, .fn), (72, .fn), (73, t73), (74, t74), (75, .fn), (78, .unit), (79, t79), (80, t80), (81, .fn), (82, (.int .u8)), (83, (.int .u8)), (84, .fn), (86, (.int .i32)), (87, (.int .i32))]
theorem hm : Tryd.prog.follows .mixedOrders = true := by kernel_rfl

end
end Go.AM
namespace Go.AM
open Go Go.Proofs
set_option linter.unusedVariables false
noncomputable section
/-! ### function 27: papermill/clock.moment -/
def K27 (k : Nat) : Calld := ⟨fun g => match g with
  | _ => none, fun g xs _ => match g with
  | _ => none⟩
abbrev R27 : Type := Bool
def res27 (r : R27) : AV := .r (.v (.bool r))
def bo27 (r : R27) : List (Nat × Blk) := []
def f27 (k : Nat) (t_ : Int) : Option R27 :=
  some (decide (t_ ≥ 0) && decide (t_ ≤ 2147483647))
def args27 (t_ : Int) : List AV := [.r (.v (.int .i64 t_))]
def v27 (k : Nat) (t_ : Int) : R27 := (f27 k t_).getD false
theorem of27 (k : Nat) (t_ : Int) (r : R27) (h : f27 k t_ = some r) : CC Tryd.prog 27 (args27 t_) [] (res27 r) (bo27 r) := by
  refine CC.of (fn := Tryd.f27) (by kernel_rfl) (by kernel_rfl) (by kernel_rfl) (by kernel_rfl) ?_
  unfold f27 at h
  refine Ev.tree hm (R := Rt) (K := (K27 k)) (l := []) (C := []) (E := [.auto [2] true]) (n := 1000) (T := .leaf (res27 (decide (t_ ≥ 0) && decide (t_ ≤ 2147483647))) (bo27 (decide (t_ ≥ 0) && decide (t_ ≤ 2147483647)))) (by kernel_rfl) ?_
  cases h; exact ⟨rfl, rfl⟩
theorem cc27 (k : Nat) (t_ : Int) (h : (f27 k t_).isSome = true) : CC Tryd.prog 27 (args27 t_) [] (res27 (v27 k t_)) (bo27 (v27 k t_)) := by
  cases e : f27 k t_ with
  | none => rw [e] at h; cases h
  | some r => rw [show v27 k t_ = r by simp [v27, e]]; exact of27 k t_ r e

end
end Go.AM
namespace Go.AM
open Go Go.Proofs
set_option linter.unusedVariables false
noncomputable section
/-! ### function 11: papermill/clock.Shift -/
def K11 (k : Nat) : Calld := ⟨fun g => match g with
  | 27 => some [false]
  | _ => none, fun g xs _ => match g with
  | 27 => match xs with
    | [.r (.v (.int .i64 t_))] => some (res27 (v27 k t_), bo27 (v27 k t_))
    | _ => none
  | _ => none⟩
abbrev R11 : Type := Int × Int × Int
def res11 (r : R11) : AV := .tup [.r (.v (.int .i64 r.1)), .r (.v (.int .i64 r.2.1)), .r (.v (.int .i64 r.2.2))]
def bo11 (r : R11) : List (Nat × Blk) := []
def f11 (k : Nat) (t_ : Int) : Option R11 :=
  if ((f27 k t_).isSome = true) then
    bif (!v27 k t_) then
      some ((0, 0, 1))
    else
      if ((86400 : Int) ≠ (0 : Int)) ∧ ((86400 : Int) ≠ (0 : Int)) ∧ ((28800 : Int) ≠ (0 : Int)) then
        some ((IntKind.i64.wrap (t_.tdiv 86400), IntKind.i64.wrap ((t_.tmod 86400).tdiv 28800), 0))
      else none
  else none
def args11 (t_ : Int) : List AV := [.r (.v (.int .i64 t_))]
def v11 (k : Nat) (t_ : Int) : R11 := (f11 k t_).getD (0, 0, 0)
theorem of11 (k : Nat) (t_ : Int) (r : R11) (h : f11 k t_ = some r) : CC Tryd.prog 11 (args11 t_) [] (res11 r) (bo11 r) := by
  refine CC.of (fn := Tryd.f11) (by kernel_rfl) (by kernel_rfl) (by kernel_rfl) (by kernel_rfl) ?_
  unfold f11 at h
  refine Ev.tree hm (R := Rt) (K := (K11 k)) (l := []) (C := []) (E := [.auto [2, 3, 4] true]) (n := 1000) (T := .need [CC Tryd.prog 27 (args27 t_) [] (res27 (v27 k t_)) (bo27 (v27 k t_))] (.test ((!v27 k t_)) (.leaf (res11 ((0, 0, 1))) (bo11 ((0, 0, 1)))) (.need [(86400 : Int) ≠ (0 : Int), (86400 : Int) ≠ (0 : Int), (28800 : Int) ≠ (0 : Int)] (.leaf (res11 ((IntKind.i64.wrap (t_.tdiv 86400), IntKind.i64.wrap ((t_.tmod 86400).tdiv 28800), 0))) (bo11 ((IntKind.i64.wrap (t_.tdiv 86400), IntKind.i64.wrap ((t_.tmod 86400).tdiv 28800), 0))))))) (by kernel_rfl) ?_
  by_cases q : ((f27 k t_).isSome = true)
  · rw [if_pos q] at h
    refine ⟨(conjC (cc27 k t_ q) conj0), ?_⟩
    refine ⟨fun c => ?_, fun c => ?_⟩
    · rw [cond_t c] at h
      cases h; exact ⟨rfl, rfl⟩
    · rw [cond_f c] at h
      by_cases q : ((86400 : Int) ≠ (0 : Int)) ∧ ((86400 : Int) ≠ (0 : Int)) ∧ ((28800 : Int) ≠ (0 : Int))
      · rw [if_pos q] at h
        refine ⟨(conjC q.1 (conjC q.2.1 (conjC q.2.2 conj0))), ?_⟩
        cases h; exact ⟨rfl, rfl⟩
      · rw [if_neg q] at h; cases h
  · rw [if_neg q] at h; cases h
theorem cc11 (k : Nat) (t_ : Int) (h : (f11 k t_).isSome = true) : CC Tryd.prog 11 (args11 t_) [] (res11 (v11 k t_)) (bo11 (v11 k t_)) := by
  cases e : f11 k t_ with
  | none => rw [e] at h; cases h
  | some r => rw [show v11 k t_ = r by simp [v11, e]]; exact of11 k t_ r e

end
end Go.AM
namespace Go.AM
open Go Go.Proofs
set_option linter.unusedVariables false
noncomputable section
/-! ### function 28: papermill/papermillref05.Moment -/
def K28 (k : Nat) : Calld := ⟨fun g => match g with
  | _ => none, fun g xs _ => match g with
  | _ => none⟩
abbrev R28 : Type := Bool
def res28 (r : R28) : AV := .r (.v (.bool r))
def bo28 (r : R28) : List (Nat × Blk) := []
def f28 (k : Nat) (t_ : Int) : Option R28 :=
  some (decide (t_ ≥ 0) && decide (t_ ≤ 2147483647))
def args28 (t_ : Int) : List AV := [.r (.v (.int .i64 t_))]
def v28 (k : Nat) (t_ : Int) : R28 := (f28 k t_).getD false
theorem of28 (k : Nat) (t_ : Int) (r : R28) (h : f28 k t_ = some r) : CC Tryd.prog 28 (args28 t_) [] (res28 r) (bo28 r) := by
  refine CC.of (fn := Tryd.f28) (by kernel_rfl) (by kernel_rfl) (by kernel_rfl) (by kernel_rfl) ?_
  unfold f28 at h
  refine Ev.tree hm (R := Rt) (K := (K28 k)) (l := []) (C := []) (E := [.auto [2] true]) (n := 1000) (T := .leaf (res28 (decide (t_ ≥ 0) && decide (t_ ≤ 2147483647))) (bo28 (decide (t_ ≥ 0) && decide (t_ ≤ 2147483647)))) (by kernel_rfl) ?_
  cases h; exact ⟨rfl, rfl⟩
theorem cc28 (k : Nat) (t_ : Int) (h : (f28 k t_).isSome = true) : CC Tryd.prog 28 (args28 t_) [] (res28 (v28 k t_)) (bo28 (v28 k t_)) := by
  cases e : f28 k t_ with
  | none => rw [e] at h; cases h
  | some r => rw [show v28 k t_ = r by simp [v28, e]]; exact of28 k t_ r e

end
end Go.AM
namespace Go.AM
open Go Go.Proofs
set_option linter.unusedVariables false
noncomputable section
/-! ### function 12: papermill/papermillref05.Shift -/
def K12 (k : Nat) : Calld := ⟨fun g => match g with
  | 28 => some [false]
  | _ => none, fun g xs _ => match g with
  | 28 => match xs with
    | [.r (.v (.int .i64 t_))] => some (res28 (v28 k t_), bo28 (v28 k t_))
    | _ => none
  | _ => none⟩
abbrev R12 : Type := Int × Int × Int
def res12 (r : R12) : AV := .tup [.r (.v (.int .i64 r.1)), .r (.v (.int .i64 r.2.1)), .r (.v (.int .i64 r.2.2))]
def bo12 (r : R12) : List (Nat × Blk) := []
def f12 (k : Nat) (t_ : Int) : Option R12 :=
  if ((f28 k t_).isSome = true) then
    bif (!v28 k t_) then
      some ((0, 0, 1))
    else
      if ((86400 : Int) ≠ (0 : Int)) ∧ ((86400 : Int) ≠ (0 : Int)) ∧ ((28800 : Int) ≠ (0 : Int)) then
        some ((IntKind.i64.wrap (t_.tdiv 86400), IntKind.i64.wrap ((t_.tmod 86400).tdiv 28800), 0))
      else none
  else none
def args12 (t_ : Int) : List AV := [.r (.v (.int .i64 t_))]
def v12 (k : Nat) (t_ : Int) : R12 := (f12 k t_).getD (0, 0, 0)
theorem of12 (k : Nat) (t_ : Int) (r : R12) (h : f12 k t_ = some r) : CC Tryd.prog 12 (args12 t_) [] (res12 r) (bo12 r) := by
  refine CC.of (fn := Tryd.f12) (by kernel_rfl) (by kernel_rfl) (by kernel_rfl) (by kernel_rfl) ?_
  unfold f12 at h
  refine Ev.tree hm (R := Rt) (K := (K12 k)) (l := []) (C := []) (E := [.auto [2, 3, 4] true]) (n := 1000) (T := .need [CC Tryd.prog 28 (args28 t_) [] (res28 (v28 k t_)) (bo28 (v28 k t_))] (.test ((!v28 k t_)) (.leaf (res12 ((0, 0, 1))) (bo12 ((0, 0, 1)))) (.need [(86400 : Int) ≠ (0 : Int), (86400 : Int) ≠ (0 : Int), (28800 : Int) ≠ (0 : Int)] (.leaf (res12 ((IntKind.i64.wrap (t_.tdiv 86400), IntKind.i64.wrap ((t_.tmod 86400).tdiv 28800), 0))) (bo12 ((IntKind.i64.wrap (t_.tdiv 86400), IntKind.i64.wrap ((t_.tmod 86400).tdiv 28800), 0))))))) (by kernel_rfl) ?_
  by_cases q : ((f28 k t_).isSome = true)
  · rw [if_pos q] at h
    refine ⟨(conjC (cc28 k t_ q) conj0), ?_⟩
    refine ⟨fun c => ?_, fun c => ?_⟩
    · rw [cond_t c] at h
      cases h; exact ⟨rfl, rfl⟩
    · rw [cond_f c] at h
      by_cases q : ((86400 : Int) ≠ (0 : Int)) ∧ ((86400 : Int) ≠ (0 : Int)) ∧ ((28800 : Int) ≠ (0 : Int))
      · rw [if_pos q] at h
        refine ⟨(conjC q.1 (conjC q.2.1 (conjC q.2.2 conj0))), ?_⟩
        cases h; exact ⟨rfl, rfl⟩
      · rw [if_neg q] at h; cases h
  · rw [if_neg q] at h; cases h
theorem cc12 (k : Nat) (t_ : Int) (h : (f12 k t_).isSome = true) : CC Tryd.prog 12 (args12 t_) [] (res12 (v12 k t_)) (bo12 (v12 k t_)) := by
  cases e : f12 k t_ with
  | none => rw [e] at h; cases h
  | some r => rw [show v12 k t_ = r by simp [v12, e]]; exact of12 k t_ r e

end
end Go.AM
namespace Go.AM
open Go Go.Proofs
set_option linter.unusedVariables false
noncomputable section
/-! ### function 14: papermill/clock.Crew -/
def K14 (k : Nat) : Calld := ⟨fun g => match g with
  | 27 => some [false]
  | _ => none, fun g xs _ => match g with
  | 27 => match xs with
    | [.r (.v (.int .i64 t_))] => some (res27 (v27 k t_), bo27 (v27 k t_))
    | _ => none
  | _ => none⟩
abbrev R14 : Type := Int × Int
def res14 (r : R14) : AV := .tup [.r (.v (.int .i64 r.1)), .r (.v (.int .i64 r.2))]
def bo14 (r : R14) : List (Nat × Blk) := []
def st14_6 (x0 : List (I).T) (x1 : Int) (x2 : List (I).T) (x3 : Int) (x4 : Int) : St := ⟨mkS 38 [(0, .r (.ro I x0)), (1, .r (.v (.int .i64 x1))), (14, .r (.ro I x2)), (15, .r (.v (.int .i64 x3))), (16, .r (.v (.int .i64 x4)))], []⟩
def f14_6 (k : Nat) : Nat → List (I).T → Int → List (I).T → Int → Int → Option R14
  | 0, _, _, _, _, _ => none
  | j + 1, x0, x1, x2, x3, x4 =>
    bif (decide (x4 < x3)) then
      if ((0 : Int) ≤ x4) ∧ (x4 < (↑x2.length : Int)) then
        bif (decide (x2.getD x4.toNat I.dflt < (0 : Int)) || decide (x2.getD x4.toNat I.dflt ≥ (16 : Int))) then
          some ((0, 1))
        else
          f14_6 k j x0 x1 x2 x3 ((IntKind.i64.wrap (x4 + 1)))
      else none
    else
      if ((f27 k x1).isSome = true) then
        bif (!v27 k x1) then
          some ((0, 1))
        else
          if ((28800 : Int) ≠ (0 : Int)) ∧ ((↑x0.length : Int) ≠ (0 : Int)) ∧ ((0 : Int) ≤ (IntKind.i64.wrap (x1.tdiv (28800 : Int))).tmod (↑x0.length : Int)) ∧ ((IntKind.i64.wrap (x1.tdiv (28800 : Int))).tmod (↑x0.length : Int) < (↑x0.length : Int)) then
            some ((x0.getD ((IntKind.i64.wrap (x1.tdiv 28800)).tmod (↑x0.length : Int)).toNat I.dflt, 0))
          else none
      else none
def f14 (k : Nat) (pattern_ : List (I).T) (t_ : Int) : Option R14 :=
  bif ((↑pattern_.length : Int) == (0 : Int)) then
    some ((0, 10))
  else
    bif (decide ((↑pattern_.length : Int) > (64 : Int))) then
      some ((0, 8))
    else
      f14_6 k k pattern_ t_ pattern_ ((↑pattern_.length : Int)) 0
def args14 (pattern_ : List (I).T) (t_ : Int) : List AV := [.r (.ro I pattern_), .r (.v (.int .i64 t_))]
def v14 (k : Nat) (pattern_ : List (I).T) (t_ : Int) : R14 := (f14 k pattern_ t_).getD (0, 0)
theorem ev14 (k : Nat) : ∀ j, (∀ (x0 : List (I).T) (x1 : Int) (x2 : List (I).T) (x3 : Int) (x4 : Int) (r : R14), f14_6 k j x0 x1 x2 x3 x4 = some r → Ev Tryd.prog Tryd.f14 0 (placeAt Tryd.f14 6) (st14_6 x0 x1 x2 x3 x4) (res14 r) (bo14 r))
  | 0 => by
    intros; rename_i h; simp [f14_6] at h
  | j + 1 => by
    have ih := ev14 k j
    · intro x0 x1 x2 x3 x4 r h
      rw [f14_6] at h
      refine Ev.tree hm (R := Rt) (K := (K14 k)) (l := []) (C := [(6, [.auto [0, 1, 14, 15, 16] false])]) (E := [.auto [4, 5] true]) (n := 1000) (T := .test ((decide (x4 < x3))) (.need [(0 : Int) ≤ x4, x4 < (↑x2.length : Int)] (.test ((decide (x2.getD x4.toNat I.dflt < (0 : Int)) || decide (x2.getD x4.toNat I.dflt ≥ (16 : Int)))) (.leaf (res14 ((0, 1))) (bo14 ((0, 1)))) (.cut 6 (placeAt Tryd.f14 6) (st14_6 x0 x1 x2 x3 ((IntKind.i64.wrap (x4 + 1))))))) (.need [CC Tryd.prog 27 (args27 x1) [] (res27 (v27 k x1)) (bo27 (v27 k x1))] (.test ((!v27 k x1)) (.leaf (res14 ((0, 1))) (bo14 ((0, 1)))) (.need [(28800 : Int) ≠ (0 : Int), (↑x0.length : Int) ≠ (0 : Int), (0 : Int) ≤ (IntKind.i64.wrap (x1.tdiv (28800 : Int))).tmod (↑x0.length : Int), (IntKind.i64.wrap (x1.tdiv (28800 : Int))).tmod (↑x0.length : Int) < (↑x0.length : Int)] (.leaf (res14 ((x0.getD ((IntKind.i64.wrap (x1.tdiv 28800)).tmod (↑x0.length : Int)).toNat I.dflt, 0))) (bo14 ((x0.getD ((IntKind.i64.wrap (x1.tdiv 28800)).tmod (↑x0.length : Int)).toNat I.dflt, 0)))))))) (by kernel_rfl) ?_
      refine ⟨fun c => ?_, fun c => ?_⟩
      · rw [cond_t c] at h
        by_cases q : ((0 : Int) ≤ x4) ∧ (x4 < (↑x2.length : Int))
        · rw [if_pos q] at h
          refine ⟨(conjC q.1 (conjC q.2 conj0)), ?_⟩
          refine ⟨fun c => ?_, fun c => ?_⟩
          · rw [cond_t c] at h
            cases h; exact ⟨rfl, rfl⟩
          · rw [cond_f c] at h
            exact ih x0 x1 x2 x3 ((IntKind.i64.wrap (x4 + 1))) _ h
        · rw [if_neg q] at h; cases h
      · rw [cond_f c] at h
        by_cases q : ((f27 k x1).isSome = true)
        · rw [if_pos q] at h
          refine ⟨(conjC (cc27 k x1 q) conj0), ?_⟩
          refine ⟨fun c => ?_, fun c => ?_⟩
          · rw [cond_t c] at h
            cases h; exact ⟨rfl, rfl⟩
          · rw [cond_f c] at h
            by_cases q : ((28800 : Int) ≠ (0 : Int)) ∧ ((↑x0.length : Int) ≠ (0 : Int)) ∧ ((0 : Int) ≤ (IntKind.i64.wrap (x1.tdiv (28800 : Int))).tmod (↑x0.length : Int)) ∧ ((IntKind.i64.wrap (x1.tdiv (28800 : Int))).tmod (↑x0.length : Int) < (↑x0.length : Int))
            · rw [if_pos q] at h
              refine ⟨(conjC q.1 (conjC q.2.1 (conjC q.2.2.1 (conjC q.2.2.2 conj0)))), ?_⟩
              cases h; exact ⟨rfl, rfl⟩
            · rw [if_neg q] at h; cases h
        · rw [if_neg q] at h; cases h
theorem of14 (k : Nat) (pattern_ : List (I).T) (t_ : Int) (r : R14) (h : f14 k pattern_ t_ = some r) : CC Tryd.prog 14 (args14 pattern_ t_) [] (res14 r) (bo14 r) := by
  refine CC.of (fn := Tryd.f14) (by kernel_rfl) (by kernel_rfl) (by kernel_rfl) (by kernel_rfl) ?_
  unfold f14 at h
  refine Ev.tree hm (R := Rt) (K := (K14 k)) (l := []) (C := [(6, [.auto [0, 1, 14, 15, 16] false])]) (E := [.auto [4, 5] true]) (n := 1000) (T := .test (((↑pattern_.length : Int) == (0 : Int))) (.leaf (res14 ((0, 10))) (bo14 ((0, 10)))) (.test ((decide ((↑pattern_.length : Int) > (64 : Int)))) (.leaf (res14 ((0, 8))) (bo14 ((0, 8)))) (.cut 6 (placeAt Tryd.f14 6) (st14_6 pattern_ t_ pattern_ ((↑pattern_.length : Int)) 0)))) (by kernel_rfl) ?_
  refine ⟨fun c => ?_, fun c => ?_⟩
  · rw [cond_t c] at h
    cases h; exact ⟨rfl, rfl⟩
  · rw [cond_f c] at h
    refine ⟨fun c => ?_, fun c => ?_⟩
    · rw [cond_t c] at h
      cases h; exact ⟨rfl, rfl⟩
    · rw [cond_f c] at h
      exact (ev14 k k) pattern_ t_ pattern_ ((↑pattern_.length : Int)) 0 _ h
theorem cc14 (k : Nat) (pattern_ : List (I).T) (t_ : Int) (h : (f14 k pattern_ t_).isSome = true) : CC Tryd.prog 14 (args14 pattern_ t_) [] (res14 (v14 k pattern_ t_)) (bo14 (v14 k pattern_ t_)) := by
  cases e : f14 k pattern_ t_ with
  | none => rw [e] at h; cases h
  | some r => rw [show v14 k pattern_ t_ = r by simp [v14, e]]; exact of14 k pattern_ t_ r e

end
end Go.AM
namespace Go.AM
open Go Go.Proofs
set_option linter.unusedVariables false
noncomputable section
/-! ### function 16: papermill/clock.Next -/
def K16 (k : Nat) : Calld := ⟨fun g => match g with
  | 27 => some [false]
  | _ => none, fun g xs _ => match g with
  | 27 => match xs with
    | [.r (.v (.int .i64 t_))] => some (res27 (v27 k t_), bo27 (v27 k t_))
    | _ => none
  | _ => none⟩
abbrev R16 : Type := Int × Int
def res16 (r : R16) : AV := .tup [.r (.v (.int .i64 r.1)), .r (.v (.int .i64 r.2))]
def bo16 (r : R16) : List (Nat × Blk) := []
def f16 (k : Nat) (t_ : Int) (shift_ : Int) : Option R16 :=
  if ((f27 k t_).isSome = true) then
    bif (!v27 k t_) then
      some ((0, 1))
    else
      bif (decide (shift_ < (0 : Int)) || decide (shift_ ≥ (3 : Int))) then
        some ((0, 17))
      else
        if ((86400 : Int) ≠ (0 : Int)) then
          bif (decide (IntKind.i64.wrap (IntKind.i64.wrap (IntKind.i64.wrap (t_.tdiv (86400 : Int)) * (86400 : Int)) + IntKind.i64.wrap (shift_ * (28800 : Int))) < t_)) then
            if ((f27 k (IntKind.i64.wrap (IntKind.i64.wrap (IntKind.i64.wrap (IntKind.i64.wrap (t_.tdiv 86400) * 86400) + IntKind.i64.wrap (shift_ * 28800)) + 86400))).isSome = true) then
              bif (!v27 k (IntKind.i64.wrap (IntKind.i64.wrap (IntKind.i64.wrap (IntKind.i64.wrap (t_.tdiv (86400 : Int)) * (86400 : Int)) + IntKind.i64.wrap (shift_ * (28800 : Int))) + (86400 : Int)))) then
                some ((0, 7))
              else
                some ((IntKind.i64.wrap (IntKind.i64.wrap (IntKind.i64.wrap (IntKind.i64.wrap (t_.tdiv 86400) * 86400) + IntKind.i64.wrap (shift_ * 28800)) + 86400), 0))
            else none
          else
            if ((f27 k (IntKind.i64.wrap (IntKind.i64.wrap (IntKind.i64.wrap (t_.tdiv 86400) * 86400) + IntKind.i64.wrap (shift_ * 28800)))).isSome = true) then
              bif (!v27 k (IntKind.i64.wrap (IntKind.i64.wrap (IntKind.i64.wrap (t_.tdiv (86400 : Int)) * (86400 : Int)) + IntKind.i64.wrap (shift_ * (28800 : Int))))) then
                some ((0, 7))
              else
                some ((IntKind.i64.wrap (IntKind.i64.wrap (IntKind.i64.wrap (t_.tdiv 86400) * 86400) + IntKind.i64.wrap (shift_ * 28800)), 0))
            else none
        else none
  else none
def args16 (t_ : Int) (shift_ : Int) : List AV := [.r (.v (.int .i64 t_)), .r (.v (.int .i64 shift_))]
def v16 (k : Nat) (t_ : Int) (shift_ : Int) : R16 := (f16 k t_ shift_).getD (0, 0)
theorem of16 (k : Nat) (t_ : Int) (shift_ : Int) (r : R16) (h : f16 k t_ shift_ = some r) : CC Tryd.prog 16 (args16 t_ shift_) [] (res16 r) (bo16 r) := by
  refine CC.of (fn := Tryd.f16) (by kernel_rfl) (by kernel_rfl) (by kernel_rfl) (by kernel_rfl) ?_
  unfold f16 at h
  refine Ev.tree hm (R := Rt) (K := (K16 k)) (l := []) (C := []) (E := [.auto [4, 5] true]) (n := 1000) (T := .need [CC Tryd.prog 27 (args27 t_) [] (res27 (v27 k t_)) (bo27 (v27 k t_))] (.test ((!v27 k t_)) (.leaf (res16 ((0, 1))) (bo16 ((0, 1)))) (.test ((decide (shift_ < (0 : Int)) || decide (shift_ ≥ (3 : Int)))) (.leaf (res16 ((0, 17))) (bo16 ((0, 17)))) (.need [(86400 : Int) ≠ (0 : Int)] (.test ((decide (IntKind.i64.wrap (IntKind.i64.wrap (IntKind.i64.wrap (t_.tdiv (86400 : Int)) * (86400 : Int)) + IntKind.i64.wrap (shift_ * (28800 : Int))) < t_))) (.need [CC Tryd.prog 27 (args27 (IntKind.i64.wrap (IntKind.i64.wrap (IntKind.i64.wrap (IntKind.i64.wrap (t_.tdiv 86400) * 86400) + IntKind.i64.wrap (shift_ * 28800)) + 86400))) [] (res27 (v27 k (IntKind.i64.wrap (IntKind.i64.wrap (IntKind.i64.wrap (IntKind.i64.wrap (t_.tdiv 86400) * 86400) + IntKind.i64.wrap (shift_ * 28800)) + 86400)))) (bo27 (v27 k (IntKind.i64.wrap (IntKind.i64.wrap (IntKind.i64.wrap (IntKind.i64.wrap (t_.tdiv 86400) * 86400) + IntKind.i64.wrap (shift_ * 28800)) + 86400))))] (.test ((!v27 k (IntKind.i64.wrap (IntKind.i64.wrap (IntKind.i64.wrap (IntKind.i64.wrap (t_.tdiv (86400 : Int)) * (86400 : Int)) + IntKind.i64.wrap (shift_ * (28800 : Int))) + (86400 : Int))))) (.leaf (res16 ((0, 7))) (bo16 ((0, 7)))) (.leaf (res16 ((IntKind.i64.wrap (IntKind.i64.wrap (IntKind.i64.wrap (IntKind.i64.wrap (t_.tdiv 86400) * 86400) + IntKind.i64.wrap (shift_ * 28800)) + 86400), 0))) (bo16 ((IntKind.i64.wrap (IntKind.i64.wrap (IntKind.i64.wrap (IntKind.i64.wrap (t_.tdiv 86400) * 86400) + IntKind.i64.wrap (shift_ * 28800)) + 86400), 0)))))) (.need [CC Tryd.prog 27 (args27 (IntKind.i64.wrap (IntKind.i64.wrap (IntKind.i64.wrap (t_.tdiv 86400) * 86400) + IntKind.i64.wrap (shift_ * 28800)))) [] (res27 (v27 k (IntKind.i64.wrap (IntKind.i64.wrap (IntKind.i64.wrap (t_.tdiv 86400) * 86400) + IntKind.i64.wrap (shift_ * 28800))))) (bo27 (v27 k (IntKind.i64.wrap (IntKind.i64.wrap (IntKind.i64.wrap (t_.tdiv 86400) * 86400) + IntKind.i64.wrap (shift_ * 28800)))))] (.test ((!v27 k (IntKind.i64.wrap (IntKind.i64.wrap (IntKind.i64.wrap (t_.tdiv (86400 : Int)) * (86400 : Int)) + IntKind.i64.wrap (shift_ * (28800 : Int)))))) (.leaf (res16 ((0, 7))) (bo16 ((0, 7)))) (.leaf (res16 ((IntKind.i64.wrap (IntKind.i64.wrap (IntKind.i64.wrap (t_.tdiv 86400) * 86400) + IntKind.i64.wrap (shift_ * 28800)), 0))) (bo16 ((IntKind.i64.wrap (IntKind.i64.wrap (IntKind.i64.wrap (t_.tdiv 86400) * 86400) + IntKind.i64.wrap (shift_ * 28800)), 0))))))))))) (by kernel_rfl) ?_
  by_cases q : ((f27 k t_).isSome = true)
  · rw [if_pos q] at h
    refine ⟨(conjC (cc27 k t_ q) conj0), ?_⟩
    refine ⟨fun c => ?_, fun c => ?_⟩
    · rw [cond_t c] at h
      cases h; exact ⟨rfl, rfl⟩
    · rw [cond_f c] at h
      refine ⟨fun c => ?_, fun c => ?_⟩
      · rw [cond_t c] at h
        cases h; exact ⟨rfl, rfl⟩
      · rw [cond_f c] at h
        by_cases q : ((86400 : Int) ≠ (0 : Int))
        · rw [if_pos q] at h
          refine ⟨(conjC q conj0), ?_⟩
          refine ⟨fun c => ?_, fun c => ?_⟩
          · rw [cond_t c] at h
            by_cases q : ((f27 k (IntKind.i64.wrap (IntKind.i64.wrap (IntKind.i64.wrap (IntKind.i64.wrap (t_.tdiv 86400) * 86400) + IntKind.i64.wrap (shift_ * 28800)) + 86400))).isSome = true)
            · rw [if_pos q] at h
              refine ⟨(conjC (cc27 k (IntKind.i64.wrap (IntKind.i64.wrap (IntKind.i64.wrap (IntKind.i64.wrap (t_.tdiv 86400) * 86400) + IntKind.i64.wrap (shift_ * 28800)) + 86400)) q) conj0), ?_⟩
              refine ⟨fun c => ?_, fun c => ?_⟩
              · rw [cond_t c] at h
                cases h; exact ⟨rfl, rfl⟩
              · rw [cond_f c] at h
                cases h; exact ⟨rfl, rfl⟩
            · rw [if_neg q] at h; cases h
          · rw [cond_f c] at h
            by_cases q : ((f27 k (IntKind.i64.wrap (IntKind.i64.wrap (IntKind.i64.wrap (t_.tdiv 86400) * 86400) + IntKind.i64.wrap (shift_ * 28800)))).isSome = true)
            · rw [if_pos q] at h
              refine ⟨(conjC (cc27 k (IntKind.i64.wrap (IntKind.i64.wrap (IntKind.i64.wrap (t_.tdiv 86400) * 86400) + IntKind.i64.wrap (shift_ * 28800))) q) conj0), ?_⟩
              refine ⟨fun c => ?_, fun c => ?_⟩
              · rw [cond_t c] at h
                cases h; exact ⟨rfl, rfl⟩
              · rw [cond_f c] at h
                cases h; exact ⟨rfl, rfl⟩
            · rw [if_neg q] at h; cases h
        · rw [if_neg q] at h; cases h
  · rw [if_neg q] at h; cases h
theorem cc16 (k : Nat) (t_ : Int) (shift_ : Int) (h : (f16 k t_ shift_).isSome = true) : CC Tryd.prog 16 (args16 t_ shift_) [] (res16 (v16 k t_ shift_)) (bo16 (v16 k t_ shift_)) := by
  cases e : f16 k t_ shift_ with
  | none => rw [e] at h; cases h
  | some r => rw [show v16 k t_ shift_ = r by simp [v16, e]]; exact of16 k t_ shift_ r e

end
end Go.AM
namespace Go.AM
open Go Go.Proofs
set_option linter.unusedVariables false
noncomputable section
/-! ### function 29: papermill/clock.span -/
def K29 (k : Nat) : Calld := ⟨fun g => match g with
  | _ => none, fun g xs _ => match g with
  | _ => none⟩
abbrev R29 : Type := Bool
def res29 (r : R29) : AV := .r (.v (.bool r))
def bo29 (r : R29) : List (Nat × Blk) := []
def f29 (k : Nat) (s_ : t34.T) : Option R29 :=
  some (decide (s_.fst ≥ 0) && decide (s_.fst ≤ s_.snd) && decide (s_.snd ≤ 2147483648))
def args29 (s_ : t34.T) : List AV := [.agg (rvs (enc t34 s_))]
def v29 (k : Nat) (s_ : t34.T) : R29 := (f29 k s_).getD false
theorem of29 (k : Nat) (s_ : t34.T) (r : R29) (h : f29 k s_ = some r) : CC Tryd.prog 29 (args29 s_) [] (res29 r) (bo29 r) := by
  refine CC.of (fn := Tryd.f29) (by kernel_rfl) (by kernel_rfl) (by kernel_rfl) (by kernel_rfl) ?_
  unfold f29 at h
  refine Ev.tree hm (R := Rt) (K := (K29 k)) (l := []) (C := []) (E := [.auto [2] true]) (n := 1000) (T := .leaf (res29 (decide (s_.fst ≥ 0) && decide (s_.fst ≤ s_.snd) && decide (s_.snd ≤ 2147483648))) (bo29 (decide (s_.fst ≥ 0) && decide (s_.fst ≤ s_.snd) && decide (s_.snd ≤ 2147483648)))) (by kernel_rfl) ?_
  cases h; exact ⟨rfl, rfl⟩
theorem cc29 (k : Nat) (s_ : t34.T) (h : (f29 k s_).isSome = true) : CC Tryd.prog 29 (args29 s_) [] (res29 (v29 k s_)) (bo29 (v29 k s_)) := by
  cases e : f29 k s_ with
  | none => rw [e] at h; cases h
  | some r => rw [show v29 k s_ = r by simp [v29, e]]; exact of29 k s_ r e

end
end Go.AM
namespace Go.AM
open Go Go.Proofs
set_option linter.unusedVariables false
noncomputable section
/-! ### function 18: papermill/clock.Parts -/
def K18 (k : Nat) : Calld := ⟨fun g => match g with
  | 29 => some [false]
  | _ => none, fun g xs _ => match g with
  | 29 => match xs with
    | [.agg q0] => (decS [] t34 q0).bind fun s_ => some (res29 (v29 k s_), bo29 (v29 k s_))
    | _ => none
  | _ => none⟩
abbrev R18 : Type := Int × List (t34).T
def res18 (r : R18) : AV := .tup [.own 0 0, .r (.v (.int .i64 r.1))]
def bo18 (r : R18) : List (Nat × Blk) := [(0, .row 34 t34 r.2)]
def st18_7 (x0 : Int) (x1 : t34.T) (x2 : List (t34).T) : St := ⟨mkS 47 [(1, .ptr 1000000 0 0), (4, .own 1000001 0), (5, .r (.v (.int .i64 x0)))], [(1000000, 0, .var 34 (rvs (enc t34 x1))), (1000001, 0, .row 34 t34 x2)]⟩
def f18_7 (k : Nat) : Nat → Int → t34.T → List (t34).T → Option R18
  | 0, _, _, _ => none
  | j + 1, x0, x1, x2 =>
    bif (decide (x0 < x1.snd)) then
      if ((28800 : Int) ≠ (0 : Int)) then
        if ((x2.length + [(x0, if IntKind.i64.wrap (IntKind.i64.wrap (IntKind.i64.wrap (x0.tdiv (28800 : Int)) + (1 : Int)) * (28800 : Int)) < x1.snd then IntKind.i64.wrap (IntKind.i64.wrap (IntKind.i64.wrap (x0.tdiv (28800 : Int)) + (1 : Int)) * (28800 : Int)) else x1.snd)].length) * (16 : Nat) ≤ (140737488355328 : Nat)) then
          f18_7 k j ((if IntKind.i64.wrap (IntKind.i64.wrap (IntKind.i64.wrap (x0.tdiv 28800) + 1) * 28800) < x1.snd then IntKind.i64.wrap (IntKind.i64.wrap (IntKind.i64.wrap (x0.tdiv 28800) + 1) * 28800) else x1.snd)) x1 ((x2 ++ [(x0, if IntKind.i64.wrap (IntKind.i64.wrap (IntKind.i64.wrap (x0.tdiv 28800) + 1) * 28800) < x1.snd then IntKind.i64.wrap (IntKind.i64.wrap (IntKind.i64.wrap (x0.tdiv 28800) + 1) * 28800) else x1.snd)]))
        else none
      else none
    else
      some ((0, x2))
def f18 (k : Nat) (s_ : t34.T) : Option R18 :=
  if ((f29 k s_).isSome = true) then
    bif (!v29 k s_) then
      some ((1, []))
    else
      if (decide (s_.fst < s_.snd) = true → (28800 : Int) ≠ (0 : Int)) ∧ (decide (s_.fst < s_.snd) = true → (28800 : Int) ≠ (0 : Int)) then
        bif (decide (s_.fst < s_.snd) && decide (IntKind.i64.wrap (IntKind.i64.wrap ((IntKind.i64.wrap (s_.snd - (1 : Int))).tdiv (28800 : Int)) - IntKind.i64.wrap (Int.tdiv s_.fst (28800 : Int))) ≥ (256 : Int))) then
          some ((8, []))
        else
          f18_7 k k s_.fst s_ ([])
      else none
  else none
def args18 (s_ : t34.T) : List AV := [.agg (rvs (enc t34 s_))]
def v18 (k : Nat) (s_ : t34.T) : R18 := (f18 k s_).getD (0, [])
theorem ev18 (k : Nat) : ∀ j, (∀ (x0 : Int) (x1 : t34.T) (x2 : List (t34).T) (r : R18), f18_7 k j x0 x1 x2 = some r → Ev Tryd.prog Tryd.f18 0 (placeAt Tryd.f18 7) (st18_7 x0 x1 x2) (res18 r) (bo18 r))
  | 0 => by
    intros; rename_i h; simp [f18_7] at h
  | j + 1 => by
    have ih := ev18 k j
    · intro x0 x1 x2 r h
      rw [f18_7] at h
      refine Ev.tree hm (R := Rt) (K := (K18 k)) (l := []) (C := [(7, [.row 4 34 t34, .auto [1, 4, 5] false])]) (E := [.row 2 34 t34, .auto [2, 3] true]) (n := 1000) (T := .test ((decide (x0 < x1.snd))) (.need [(28800 : Int) ≠ (0 : Int)] (.need [(x2.length + [(x0, if IntKind.i64.wrap (IntKind.i64.wrap (IntKind.i64.wrap (x0.tdiv (28800 : Int)) + (1 : Int)) * (28800 : Int)) < x1.snd then IntKind.i64.wrap (IntKind.i64.wrap (IntKind.i64.wrap (x0.tdiv (28800 : Int)) + (1 : Int)) * (28800 : Int)) else x1.snd)].length) * (16 : Nat) ≤ (140737488355328 : Nat)] (.cut 7 (placeAt Tryd.f18 7) (st18_7 ((if IntKind.i64.wrap (IntKind.i64.wrap (IntKind.i64.wrap (x0.tdiv 28800) + 1) * 28800) < x1.snd then IntKind.i64.wrap (IntKind.i64.wrap (IntKind.i64.wrap (x0.tdiv 28800) + 1) * 28800) else x1.snd)) x1 ((x2 ++ [(x0, if IntKind.i64.wrap (IntKind.i64.wrap (IntKind.i64.wrap (x0.tdiv 28800) + 1) * 28800) < x1.snd then IntKind.i64.wrap (IntKind.i64.wrap (IntKind.i64.wrap (x0.tdiv 28800) + 1) * 28800) else x1.snd)])))))) (.leaf (res18 ((0, x2))) (bo18 ((0, x2))))) (by kernel_rfl) ?_
      refine ⟨fun c => ?_, fun c => ?_⟩
      · rw [cond_t c] at h
        by_cases q : ((28800 : Int) ≠ (0 : Int))
        · rw [if_pos q] at h
          refine ⟨(conjC q conj0), ?_⟩
          by_cases q : ((x2.length + [(x0, if IntKind.i64.wrap (IntKind.i64.wrap (IntKind.i64.wrap (x0.tdiv (28800 : Int)) + (1 : Int)) * (28800 : Int)) < x1.snd then IntKind.i64.wrap (IntKind.i64.wrap (IntKind.i64.wrap (x0.tdiv (28800 : Int)) + (1 : Int)) * (28800 : Int)) else x1.snd)].length) * (16 : Nat) ≤ (140737488355328 : Nat))
          · rw [if_pos q] at h
            refine ⟨(conjC q conj0), ?_⟩
            exact ih ((if IntKind.i64.wrap (IntKind.i64.wrap (IntKind.i64.wrap (x0.tdiv 28800) + 1) * 28800) < x1.snd then IntKind.i64.wrap (IntKind.i64.wrap (IntKind.i64.wrap (x0.tdiv 28800) + 1) * 28800) else x1.snd)) x1 ((x2 ++ [(x0, if IntKind.i64.wrap (IntKind.i64.wrap (IntKind.i64.wrap (x0.tdiv 28800) + 1) * 28800) < x1.snd then IntKind.i64.wrap (IntKind.i64.wrap (IntKind.i64.wrap (x0.tdiv 28800) + 1) * 28800) else x1.snd)])) _ h
          · rw [if_neg q] at h; cases h
        · rw [if_neg q] at h; cases h
      · rw [cond_f c] at h
        cases h; exact ⟨rfl, rfl⟩
theorem of18 (k : Nat) (s_ : t34.T) (r : R18) (h : f18 k s_ = some r) : CC Tryd.prog 18 (args18 s_) [] (res18 r) (bo18 r) := by
  refine CC.of (fn := Tryd.f18) (by kernel_rfl) (by kernel_rfl) (by kernel_rfl) (by kernel_rfl) ?_
  unfold f18 at h
  refine Ev.tree hm (R := Rt) (K := (K18 k)) (l := []) (C := [(7, [.row 4 34 t34, .auto [1, 4, 5] false])]) (E := [.row 2 34 t34, .auto [2, 3] true]) (n := 1000) (T := .need [CC Tryd.prog 29 (args29 s_) [] (res29 (v29 k s_)) (bo29 (v29 k s_))] (.test ((!v29 k s_)) (.leaf (res18 ((1, []))) (bo18 ((1, [])))) (.need [decide (s_.fst < s_.snd) = true → (28800 : Int) ≠ (0 : Int), decide (s_.fst < s_.snd) = true → (28800 : Int) ≠ (0 : Int)] (.test ((decide (s_.fst < s_.snd) && decide (IntKind.i64.wrap (IntKind.i64.wrap ((IntKind.i64.wrap (s_.snd - (1 : Int))).tdiv (28800 : Int)) - IntKind.i64.wrap (Int.tdiv s_.fst (28800 : Int))) ≥ (256 : Int)))) (.leaf (res18 ((8, []))) (bo18 ((8, [])))) (.cut 7 (placeAt Tryd.f18 7) (st18_7 s_.fst s_ ([]))))))) (by kernel_rfl) ?_
  by_cases q : ((f29 k s_).isSome = true)
  · rw [if_pos q] at h
    refine ⟨(conjC (cc29 k s_ q) conj0), ?_⟩
    refine ⟨fun c => ?_, fun c => ?_⟩
    · rw [cond_t c] at h
      cases h; exact ⟨rfl, rfl⟩
    · rw [cond_f c] at h
      by_cases q : (decide (s_.fst < s_.snd) = true → (28800 : Int) ≠ (0 : Int)) ∧ (decide (s_.fst < s_.snd) = true → (28800 : Int) ≠ (0 : Int))
      · rw [if_pos q] at h
        refine ⟨(conjC q.1 (conjC q.2 conj0)), ?_⟩
        refine ⟨fun c => ?_, fun c => ?_⟩
        · rw [cond_t c] at h
          cases h; exact ⟨rfl, rfl⟩
        · rw [cond_f c] at h
          exact (ev18 k k) s_.fst s_ ([]) _ h
      · rw [if_neg q] at h; cases h
  · rw [if_neg q] at h; cases h
theorem cc18 (k : Nat) (s_ : t34.T) (h : (f18 k s_).isSome = true) : CC Tryd.prog 18 (args18 s_) [] (res18 (v18 k s_)) (bo18 (v18 k s_)) := by
  cases e : f18 k s_ with
  | none => rw [e] at h; cases h
  | some r => rw [show v18 k s_ = r by simp [v18, e]]; exact of18 k s_ r e

end
end Go.AM
namespace Go.AM
open Go Go.Proofs
set_option linter.unusedVariables false
noncomputable section
/-! ### function 20: papermill/papermilllaw05.spans -/
def K20 (k : Nat) : Calld := ⟨fun g => match g with
  | _ => none, fun g xs _ => match g with
  | _ => none⟩
abbrev R20 : Type := Bool
def res20 (r : R20) : AV := .r (.v (.bool r))
def bo20 (r : R20) : List (Nat × Blk) := []
def st20_4 (x0 : List (t34).T) (x1 : List (t34).T) (x2 : Int) : St := ⟨mkS 26 [(0, .r (.ro t34 x0)), (1, .r (.ro t34 x1)), (5, .r (.v (.int .i64 x2)))], []⟩
def f20_4 (k : Nat) : Nat → List (t34).T → List (t34).T → Int → Option R20
  | 0, _, _, _ => none
  | j + 1, x0, x1, x2 =>
    bif (decide (x2 < (↑x0.length : Int))) then
      if ((0 : Int) ≤ x2) ∧ (x2 < (↑x0.length : Int)) ∧ ((0 : Int) ≤ x2) ∧ (x2 < (↑x1.length : Int)) then
        bif (!eqT t34 (x0.getD x2.toNat t34.dflt) (x1.getD x2.toNat t34.dflt)) then
          some false
        else
          f20_4 k j x0 x1 ((IntKind.i64.wrap (x2 + 1)))
      else none
    else
      some true
def f20 (k : Nat) (a_ : List (t34).T) (b_ : List (t34).T) : Option R20 :=
  bif ((↑a_.length : Int) != (↑b_.length : Int)) then
    some false
  else
    f20_4 k k a_ b_ 0
def args20 (a_ : List (t34).T) (b_ : List (t34).T) : List AV := [.r (.ro t34 a_), .r (.ro t34 b_)]
def v20 (k : Nat) (a_ : List (t34).T) (b_ : List (t34).T) : R20 := (f20 k a_ b_).getD false
theorem ev20 (k : Nat) : ∀ j, (∀ (x0 : List (t34).T) (x1 : List (t34).T) (x2 : Int) (r : R20), f20_4 k j x0 x1 x2 = some r → Ev Tryd.prog Tryd.f20 0 (placeAt Tryd.f20 4) (st20_4 x0 x1 x2) (res20 r) (bo20 r))
  | 0 => by
    intros; rename_i h; simp [f20_4] at h
  | j + 1 => by
    have ih := ev20 k j
    · intro x0 x1 x2 r h
      rw [f20_4] at h
      refine Ev.tree hm (R := Rt) (K := (K20 k)) (l := []) (C := [(4, [.auto [0, 1, 5] false])]) (E := [.auto [4] true]) (n := 1000) (T := .test ((decide (x2 < (↑x0.length : Int)))) (.need [(0 : Int) ≤ x2, x2 < (↑x0.length : Int), (0 : Int) ≤ x2, x2 < (↑x1.length : Int)] (.test ((!eqT t34 (x0.getD x2.toNat t34.dflt) (x1.getD x2.toNat t34.dflt))) (.leaf (res20 false) (bo20 false)) (.cut 4 (placeAt Tryd.f20 4) (st20_4 x0 x1 ((IntKind.i64.wrap (x2 + 1))))))) (.leaf (res20 true) (bo20 true))) (by kernel_rfl) ?_
      refine ⟨fun c => ?_, fun c => ?_⟩
      · rw [cond_t c] at h
        by_cases q : ((0 : Int) ≤ x2) ∧ (x2 < (↑x0.length : Int)) ∧ ((0 : Int) ≤ x2) ∧ (x2 < (↑x1.length : Int))
        · rw [if_pos q] at h
          refine ⟨(conjC q.1 (conjC q.2.1 (conjC q.2.2.1 (conjC q.2.2.2 conj0)))), ?_⟩
          refine ⟨fun c => ?_, fun c => ?_⟩
          · rw [cond_t c] at h
            cases h; exact ⟨rfl, rfl⟩
          · rw [cond_f c] at h
            exact ih x0 x1 ((IntKind.i64.wrap (x2 + 1))) _ h
        · rw [if_neg q] at h; cases h
      · rw [cond_f c] at h
        cases h; exact ⟨rfl, rfl⟩
theorem of20 (k : Nat) (a_ : List (t34).T) (b_ : List (t34).T) (r : R20) (h : f20 k a_ b_ = some r) : CC Tryd.prog 20 (args20 a_ b_) [] (res20 r) (bo20 r) := by
  refine CC.of (fn := Tryd.f20) (by kernel_rfl) (by kernel_rfl) (by kernel_rfl) (by kernel_rfl) ?_
  unfold f20 at h
  refine Ev.tree hm (R := Rt) (K := (K20 k)) (l := []) (C := [(4, [.auto [0, 1, 5] false])]) (E := [.auto [4] true]) (n := 1000) (T := .test (((↑a_.length : Int) != (↑b_.length : Int))) (.leaf (res20 false) (bo20 false)) (.cut 4 (placeAt Tryd.f20 4) (st20_4 a_ b_ 0))) (by kernel_rfl) ?_
  refine ⟨fun c => ?_, fun c => ?_⟩
  · rw [cond_t c] at h
    cases h; exact ⟨rfl, rfl⟩
  · rw [cond_f c] at h
    exact (ev20 k k) a_ b_ 0 _ h
theorem cc20 (k : Nat) (a_ : List (t34).T) (b_ : List (t34).T) (h : (f20 k a_ b_).isSome = true) : CC Tryd.prog 20 (args20 a_ b_) [] (res20 (v20 k a_ b_)) (bo20 (v20 k a_ b_)) := by
  cases e : f20 k a_ b_ with
  | none => rw [e] at h; cases h
  | some r => rw [show v20 k a_ b_ = r by simp [v20, e]]; exact of20 k a_ b_ r e

end
end Go.AM
namespace Go.AM
open Go Go.Proofs
set_option linter.unusedVariables false
noncomputable section
def bs_H05f39_0 : ByteArray := ByteArray.mk #[(48 : UInt8), (49 : UInt8), (50 : UInt8), (51 : UInt8), (52 : UInt8), (53 : UInt8), (54 : UInt8), (55 : UInt8), (56 : UInt8), (57 : UInt8), (97 : UInt8), (98 : UInt8), (99 : UInt8), (100 : UInt8), (101 : UInt8), (102 : UInt8), (103 : UInt8), (104 : UInt8), (105 : UInt8), (106 : UInt8), (107 : UInt8), (108 : UInt8), (109 : UInt8), (110 : UInt8), (111 : UInt8), (112 : UInt8), (113 : UInt8), (114 : UInt8), (115 : UInt8), (116 : UInt8), (117 : UInt8), (118 : UInt8), (119 : UInt8), (120 : UInt8), (121 : UInt8), (122 : UInt8)]
def bs_H05f39_1 : ByteArray := ByteArray.mk #[48, 49, 50, 51, 52, 53, 54, 55, 56, 57, 97, 98, 99, 100, 101, 102, 103, 104, 105, 106, 107, 108, 109, 110, 111, 112, 113, 114, 115, 116, 117, 118, 119, 120, 121, 122]
/-! ### function 39: internal/strconv.small -/
def K39 (k : Nat) : Calld := ⟨fun g => match g with
  | _ => none, fun g xs _ => match g with
  | _ => none⟩
abbrev R39 : Type := ByteArray
def res39 (r : R39) : AV := .r (.v (.string r))
def bo39 (r : R39) : List (Nat × Blk) := []
def f39 (k : Nat) (i_ : Int) : Option R39 :=
  bif (decide (i_ < (10 : Int))) then
    if ((0 : Int) ≤ i_) ∧ (i_ ≤ IntKind.i64.wrap (i_ + (1 : Int))) ∧ (IntKind.i64.wrap (i_ + (1 : Int)) ≤ (↑ bs_H05f39_0.size : Int)) then
      some (bs_H05f39_1.extract i_.toNat (IntKind.i64.wrap (i_ + 1)).toNat)
    else none
  else
    if ((0 : Int) ≤ IntKind.i64.wrap (i_ * (2 : Int))) ∧ (IntKind.i64.wrap (i_ * (2 : Int)) ≤ IntKind.i64.wrap (IntKind.i64.wrap (i_ * (2 : Int)) + (2 : Int))) ∧ (IntKind.i64.wrap (IntKind.i64.wrap (i_ * (2 : Int)) + (2 : Int)) ≤ (↑ (ByteArray.mk (([(48 : UInt8), (48 : UInt8), (48 : UInt8), (49 : UInt8), (48 : UInt8), (50 : UInt8), (48 : UInt8), (51 : UInt8), (48 : UInt8), (52 : UInt8), (48 : UInt8), (53 : UInt8), (48 : UInt8), (54 : UInt8), (48 : UInt8), (55 : UInt8), (48 : UInt8), (56 : UInt8), (48 : UInt8), (57 : UInt8), (49 : UInt8), (48 : UInt8), (49 : UInt8), (49 : UInt8), (49 : UInt8), (50 : UInt8), (49 : UInt8), (51 : UInt8), (49 : UInt8), (52 : UInt8), (49 : UInt8), (53 : UInt8), (49 : UInt8), (54 : UInt8), (49 : UInt8), (55 : UInt8), (49 : UInt8), (56 : UInt8), (49 : UInt8), (57 : UInt8), (50 : UInt8), (48 : UInt8), (50 : UInt8), (49 : UInt8), (50 : UInt8), (50 : UInt8), (50 : UInt8), (51 : UInt8), (50 : UInt8), (52 : UInt8)].append [(50 : UInt8), (53 : UInt8), (50 : UInt8), (54 : UInt8), (50 : UInt8), (55 : UInt8), (50 : UInt8), (56 : UInt8), (50 : UInt8), (57 : UInt8), (51 : UInt8), (48 : UInt8), (51 : UInt8), (49 : UInt8), (51 : UInt8), (50 : UInt8), (51 : UInt8), (51 : UInt8), (51 : UInt8), (52 : UInt8), (51 : UInt8), (53 : UInt8), (51 : UInt8), (54 : UInt8), (51 : UInt8), (55 : UInt8), (51 : UInt8), (56 : UInt8), (51 : UInt8), (57 : UInt8), (52 : UInt8), (48 : UInt8), (52 : UInt8), (49 : UInt8), (52 : UInt8), (50 : UInt8), (52 : UInt8), (51 : UInt8), (52 : UInt8), (52 : UInt8), (52 : UInt8), (53 : UInt8), (52 : UInt8), (54 : UInt8), (52 : UInt8), (55 : UInt8), (52 : UInt8), (56 : UInt8), (52 : UInt8), (57 : UInt8)]).append ([(53 : UInt8), (48 : UInt8), (53 : UInt8), (49 : UInt8), (53 : UInt8), (50 : UInt8), (53 : UInt8), (51 : UInt8), (53 : UInt8), (52 : UInt8), (53 : UInt8), (53 : UInt8), (53 : UInt8), (54 : UInt8), (53 : UInt8), (55 : UInt8), (53 : UInt8), (56 : UInt8), (53 : UInt8), (57 : UInt8), (54 : UInt8), (48 : UInt8), (54 : UInt8), (49 : UInt8), (54 : UInt8), (50 : UInt8), (54 : UInt8), (51 : UInt8), (54 : UInt8), (52 : UInt8), (54 : UInt8), (53 : UInt8), (54 : UInt8), (54 : UInt8), (54 : UInt8), (55 : UInt8), (54 : UInt8), (56 : UInt8), (54 : UInt8), (57 : UInt8), (55 : UInt8), (48 : UInt8), (55 : UInt8), (49 : UInt8), (55 : UInt8), (50 : UInt8), (55 : UInt8), (51 : UInt8), (55 : UInt8), (52 : UInt8)].append [(55 : UInt8), (53 : UInt8), (55 : UInt8), (54 : UInt8), (55 : UInt8), (55 : UInt8), (55 : UInt8), (56 : UInt8), (55 : UInt8), (57 : UInt8), (56 : UInt8), (48 : UInt8), (56 : UInt8), (49 : UInt8), (56 : UInt8), (50 : UInt8), (56 : UInt8), (51 : UInt8), (56 : UInt8), (52 : UInt8), (56 : UInt8), (53 : UInt8), (56 : UInt8), (54 : UInt8), (56 : UInt8), (55 : UInt8), (56 : UInt8), (56 : UInt8), (56 : UInt8), (57 : UInt8), (57 : UInt8), (48 : UInt8), (57 : UInt8), (49 : UInt8), (57 : UInt8), (50 : UInt8), (57 : UInt8), (51 : UInt8), (57 : UInt8), (52 : UInt8), (57 : UInt8), (53 : UInt8), (57 : UInt8), (54 : UInt8), (57 : UInt8), (55 : UInt8), (57 : UInt8), (56 : UInt8), (57 : UInt8), (57 : UInt8)])).toArray).size : Int)) then
      some ((ByteArray.mk (([48, 48, 48, 49, 48, 50, 48, 51, 48, 52, 48, 53, 48, 54, 48, 55, 48, 56, 48, 57, 49, 48, 49, 49, 49, 50, 49, 51, 49, 52, 49, 53, 49, 54, 49, 55, 49, 56, 49, 57, 50, 48, 50, 49, 50, 50, 50, 51, 50, 52].append [50, 53, 50, 54, 50, 55, 50, 56, 50, 57, 51, 48, 51, 49, 51, 50, 51, 51, 51, 52, 51, 53, 51, 54, 51, 55, 51, 56, 51, 57, 52, 48, 52, 49, 52, 50, 52, 51, 52, 52, 52, 53, 52, 54, 52, 55, 52, 56, 52, 57]).append ([53, 48, 53, 49, 53, 50, 53, 51, 53, 52, 53, 53, 53, 54, 53, 55, 53, 56, 53, 57, 54, 48, 54, 49, 54, 50, 54, 51, 54, 52, 54, 53, 54, 54, 54, 55, 54, 56, 54, 57, 55, 48, 55, 49, 55, 50, 55, 51, 55, 52].append [55, 53, 55, 54, 55, 55, 55, 56, 55, 57, 56, 48, 56, 49, 56, 50, 56, 51, 56, 52, 56, 53, 56, 54, 56, 55, 56, 56, 56, 57, 57, 48, 57, 49, 57, 50, 57, 51, 57, 52, 57, 53, 57, 54, 57, 55, 57, 56, 57, 57])).toArray).extract (IntKind.i64.wrap (i_ * 2)).toNat (IntKind.i64.wrap (IntKind.i64.wrap (i_ * 2) + 2)).toNat)
    else none
def args39 (i_ : Int) : List AV := [.r (.v (.int .i64 i_))]
def v39 (k : Nat) (i_ : Int) : R39 := (f39 k i_).getD ByteArray.empty
theorem of39 (k : Nat) (i_ : Int) (r : R39) (h : f39 k i_ = some r) : CC Tryd.prog 39 (args39 i_) [] (res39 r) (bo39 r) := by
  refine CC.of (fn := Tryd.f39) (by kernel_rfl) (by kernel_rfl) (by kernel_rfl) (by kernel_rfl) ?_
  unfold f39 at h
  refine Ev.tree hm (R := Rt) (K := (K39 k)) (l := []) (C := []) (E := [.auto [2] true]) (n := 1000) (T := .test ((decide (i_ < (10 : Int)))) (.need [(0 : Int) ≤ i_, i_ ≤ IntKind.i64.wrap (i_ + (1 : Int)), IntKind.i64.wrap (i_ + (1 : Int)) ≤ (↑ bs_H05f39_0.size : Int)] (.leaf (res39 (bs_H05f39_1.extract i_.toNat (IntKind.i64.wrap (i_ + 1)).toNat)) (bo39 (bs_H05f39_1.extract i_.toNat (IntKind.i64.wrap (i_ + 1)).toNat)))) (.need [(0 : Int) ≤ IntKind.i64.wrap (i_ * (2 : Int)), IntKind.i64.wrap (i_ * (2 : Int)) ≤ IntKind.i64.wrap (IntKind.i64.wrap (i_ * (2 : Int)) + (2 : Int)), IntKind.i64.wrap (IntKind.i64.wrap (i_ * (2 : Int)) + (2 : Int)) ≤ (↑ (ByteArray.mk (([(48 : UInt8), (48 : UInt8), (48 : UInt8), (49 : UInt8), (48 : UInt8), (50 : UInt8), (48 : UInt8), (51 : UInt8), (48 : UInt8), (52 : UInt8), (48 : UInt8), (53 : UInt8), (48 : UInt8), (54 : UInt8), (48 : UInt8), (55 : UInt8), (48 : UInt8), (56 : UInt8), (48 : UInt8), (57 : UInt8), (49 : UInt8), (48 : UInt8), (49 : UInt8), (49 : UInt8), (49 : UInt8), (50 : UInt8), (49 : UInt8), (51 : UInt8), (49 : UInt8), (52 : UInt8), (49 : UInt8), (53 : UInt8), (49 : UInt8), (54 : UInt8), (49 : UInt8), (55 : UInt8), (49 : UInt8), (56 : UInt8), (49 : UInt8), (57 : UInt8), (50 : UInt8), (48 : UInt8), (50 : UInt8), (49 : UInt8), (50 : UInt8), (50 : UInt8), (50 : UInt8), (51 : UInt8), (50 : UInt8), (52 : UInt8)].append [(50 : UInt8), (53 : UInt8), (50 : UInt8), (54 : UInt8), (50 : UInt8), (55 : UInt8), (50 : UInt8), (56 : UInt8), (50 : UInt8), (57 : UInt8), (51 : UInt8), (48 : UInt8), (51 : UInt8), (49 : UInt8), (51 : UInt8), (50 : UInt8), (51 : UInt8), (51 : UInt8), (51 : UInt8), (52 : UInt8), (51 : UInt8), (53 : UInt8), (51 : UInt8), (54 : UInt8), (51 : UInt8), (55 : UInt8), (51 : UInt8), (56 : UInt8), (51 : UInt8), (57 : UInt8), (52 : UInt8), (48 : UInt8), (52 : UInt8), (49 : UInt8), (52 : UInt8), (50 : UInt8), (52 : UInt8), (51 : UInt8), (52 : UInt8), (52 : UInt8), (52 : UInt8), (53 : UInt8), (52 : UInt8), (54 : UInt8), (52 : UInt8), (55 : UInt8), (52 : UInt8), (56 : UInt8), (52 : UInt8), (57 : UInt8)]).append ([(53 : UInt8), (48 : UInt8), (53 : UInt8), (49 : UInt8), (53 : UInt8), (50 : UInt8), (53 : UInt8), (51 : UInt8), (53 : UInt8), (52 : UInt8), (53 : UInt8), (53 : UInt8), (53 : UInt8), (54 : UInt8), (53 : UInt8), (55 : UInt8), (53 : UInt8), (56 : UInt8), (53 : UInt8), (57 : UInt8), (54 : UInt8), (48 : UInt8), (54 : UInt8), (49 : UInt8), (54 : UInt8), (50 : UInt8), (54 : UInt8), (51 : UInt8), (54 : UInt8), (52 : UInt8), (54 : UInt8), (53 : UInt8), (54 : UInt8), (54 : UInt8), (54 : UInt8), (55 : UInt8), (54 : UInt8), (56 : UInt8), (54 : UInt8), (57 : UInt8), (55 : UInt8), (48 : UInt8), (55 : UInt8), (49 : UInt8), (55 : UInt8), (50 : UInt8), (55 : UInt8), (51 : UInt8), (55 : UInt8), (52 : UInt8)].append [(55 : UInt8), (53 : UInt8), (55 : UInt8), (54 : UInt8), (55 : UInt8), (55 : UInt8), (55 : UInt8), (56 : UInt8), (55 : UInt8), (57 : UInt8), (56 : UInt8), (48 : UInt8), (56 : UInt8), (49 : UInt8), (56 : UInt8), (50 : UInt8), (56 : UInt8), (51 : UInt8), (56 : UInt8), (52 : UInt8), (56 : UInt8), (53 : UInt8), (56 : UInt8), (54 : UInt8), (56 : UInt8), (55 : UInt8), (56 : UInt8), (56 : UInt8), (56 : UInt8), (57 : UInt8), (57 : UInt8), (48 : UInt8), (57 : UInt8), (49 : UInt8), (57 : UInt8), (50 : UInt8), (57 : UInt8), (51 : UInt8), (57 : UInt8), (52 : UInt8), (57 : UInt8), (53 : UInt8), (57 : UInt8), (54 : UInt8), (57 : UInt8), (55 : UInt8), (57 : UInt8), (56 : UInt8), (57 : UInt8), (57 : UInt8)])).toArray).size : Int)] (.leaf (res39 ((ByteArray.mk (([48, 48, 48, 49, 48, 50, 48, 51, 48, 52, 48, 53, 48, 54, 48, 55, 48, 56, 48, 57, 49, 48, 49, 49, 49, 50, 49, 51, 49, 52, 49, 53, 49, 54, 49, 55, 49, 56, 49, 57, 50, 48, 50, 49, 50, 50, 50, 51, 50, 52].append [50, 53, 50, 54, 50, 55, 50, 56, 50, 57, 51, 48, 51, 49, 51, 50, 51, 51, 51, 52, 51, 53, 51, 54, 51, 55, 51, 56, 51, 57, 52, 48, 52, 49, 52, 50, 52, 51, 52, 52, 52, 53, 52, 54, 52, 55, 52, 56, 52, 57]).append ([53, 48, 53, 49, 53, 50, 53, 51, 53, 52, 53, 53, 53, 54, 53, 55, 53, 56, 53, 57, 54, 48, 54, 49, 54, 50, 54, 51, 54, 52, 54, 53, 54, 54, 54, 55, 54, 56, 54, 57, 55, 48, 55, 49, 55, 50, 55, 51, 55, 52].append [55, 53, 55, 54, 55, 55, 55, 56, 55, 57, 56, 48, 56, 49, 56, 50, 56, 51, 56, 52, 56, 53, 56, 54, 56, 55, 56, 56, 56, 57, 57, 48, 57, 49, 57, 50, 57, 51, 57, 52, 57, 53, 57, 54, 57, 55, 57, 56, 57, 57])).toArray).extract (IntKind.i64.wrap (i_ * 2)).toNat (IntKind.i64.wrap (IntKind.i64.wrap (i_ * 2) + 2)).toNat)) (bo39 ((ByteArray.mk (([48, 48, 48, 49, 48, 50, 48, 51, 48, 52, 48, 53, 48, 54, 48, 55, 48, 56, 48, 57, 49, 48, 49, 49, 49, 50, 49, 51, 49, 52, 49, 53, 49, 54, 49, 55, 49, 56, 49, 57, 50, 48, 50, 49, 50, 50, 50, 51, 50, 52].append [50, 53, 50, 54, 50, 55, 50, 56, 50, 57, 51, 48, 51, 49, 51, 50, 51, 51, 51, 52, 51, 53, 51, 54, 51, 55, 51, 56, 51, 57, 52, 48, 52, 49, 52, 50, 52, 51, 52, 52, 52, 53, 52, 54, 52, 55, 52, 56, 52, 57]).append ([53, 48, 53, 49, 53, 50, 53, 51, 53, 52, 53, 53, 53, 54, 53, 55, 53, 56, 53, 57, 54, 48, 54, 49, 54, 50, 54, 51, 54, 52, 54, 53, 54, 54, 54, 55, 54, 56, 54, 57, 55, 48, 55, 49, 55, 50, 55, 51, 55, 52].append [55, 53, 55, 54, 55, 55, 55, 56, 55, 57, 56, 48, 56, 49, 56, 50, 56, 51, 56, 52, 56, 53, 56, 54, 56, 55, 56, 56, 56, 57, 57, 48, 57, 49, 57, 50, 57, 51, 57, 52, 57, 53, 57, 54, 57, 55, 57, 56, 57, 57])).toArray).extract (IntKind.i64.wrap (i_ * 2)).toNat (IntKind.i64.wrap (IntKind.i64.wrap (i_ * 2) + 2)).toNat))))) (by kernel_rfl) ?_
  refine ⟨fun c => ?_, fun c => ?_⟩
  · rw [cond_t c] at h
    by_cases q : ((0 : Int) ≤ i_) ∧ (i_ ≤ IntKind.i64.wrap (i_ + (1 : Int))) ∧ (IntKind.i64.wrap (i_ + (1 : Int)) ≤ (↑ bs_H05f39_0.size : Int))
    · rw [if_pos q] at h
      refine ⟨(conjC q.1 (conjC q.2.1 (conjC q.2.2 conj0))), ?_⟩
      cases h; exact ⟨rfl, rfl⟩
    · rw [if_neg q] at h; cases h
  · rw [cond_f c] at h
    by_cases q : ((0 : Int) ≤ IntKind.i64.wrap (i_ * (2 : Int))) ∧ (IntKind.i64.wrap (i_ * (2 : Int)) ≤ IntKind.i64.wrap (IntKind.i64.wrap (i_ * (2 : Int)) + (2 : Int))) ∧ (IntKind.i64.wrap (IntKind.i64.wrap (i_ * (2 : Int)) + (2 : Int)) ≤ (↑ (ByteArray.mk (([(48 : UInt8), (48 : UInt8), (48 : UInt8), (49 : UInt8), (48 : UInt8), (50 : UInt8), (48 : UInt8), (51 : UInt8), (48 : UInt8), (52 : UInt8), (48 : UInt8), (53 : UInt8), (48 : UInt8), (54 : UInt8), (48 : UInt8), (55 : UInt8), (48 : UInt8), (56 : UInt8), (48 : UInt8), (57 : UInt8), (49 : UInt8), (48 : UInt8), (49 : UInt8), (49 : UInt8), (49 : UInt8), (50 : UInt8), (49 : UInt8), (51 : UInt8), (49 : UInt8), (52 : UInt8), (49 : UInt8), (53 : UInt8), (49 : UInt8), (54 : UInt8), (49 : UInt8), (55 : UInt8), (49 : UInt8), (56 : UInt8), (49 : UInt8), (57 : UInt8), (50 : UInt8), (48 : UInt8), (50 : UInt8), (49 : UInt8), (50 : UInt8), (50 : UInt8), (50 : UInt8), (51 : UInt8), (50 : UInt8), (52 : UInt8)].append [(50 : UInt8), (53 : UInt8), (50 : UInt8), (54 : UInt8), (50 : UInt8), (55 : UInt8), (50 : UInt8), (56 : UInt8), (50 : UInt8), (57 : UInt8), (51 : UInt8), (48 : UInt8), (51 : UInt8), (49 : UInt8), (51 : UInt8), (50 : UInt8), (51 : UInt8), (51 : UInt8), (51 : UInt8), (52 : UInt8), (51 : UInt8), (53 : UInt8), (51 : UInt8), (54 : UInt8), (51 : UInt8), (55 : UInt8), (51 : UInt8), (56 : UInt8), (51 : UInt8), (57 : UInt8), (52 : UInt8), (48 : UInt8), (52 : UInt8), (49 : UInt8), (52 : UInt8), (50 : UInt8), (52 : UInt8), (51 : UInt8), (52 : UInt8), (52 : UInt8), (52 : UInt8), (53 : UInt8), (52 : UInt8), (54 : UInt8), (52 : UInt8), (55 : UInt8), (52 : UInt8), (56 : UInt8), (52 : UInt8), (57 : UInt8)]).append ([(53 : UInt8), (48 : UInt8), (53 : UInt8), (49 : UInt8), (53 : UInt8), (50 : UInt8), (53 : UInt8), (51 : UInt8), (53 : UInt8), (52 : UInt8), (53 : UInt8), (53 : UInt8), (53 : UInt8), (54 : UInt8), (53 : UInt8), (55 : UInt8), (53 : UInt8), (56 : UInt8), (53 : UInt8), (57 : UInt8), (54 : UInt8), (48 : UInt8), (54 : UInt8), (49 : UInt8), (54 : UInt8), (50 : UInt8), (54 : UInt8), (51 : UInt8), (54 : UInt8), (52 : UInt8), (54 : UInt8), (53 : UInt8), (54 : UInt8), (54 : UInt8), (54 : UInt8), (55 : UInt8), (54 : UInt8), (56 : UInt8), (54 : UInt8), (57 : UInt8), (55 : UInt8), (48 : UInt8), (55 : UInt8), (49 : UInt8), (55 : UInt8), (50 : UInt8), (55 : UInt8), (51 : UInt8), (55 : UInt8), (52 : UInt8)].append [(55 : UInt8), (53 : UInt8), (55 : UInt8), (54 : UInt8), (55 : UInt8), (55 : UInt8), (55 : UInt8), (56 : UInt8), (55 : UInt8), (57 : UInt8), (56 : UInt8), (48 : UInt8), (56 : UInt8), (49 : UInt8), (56 : UInt8), (50 : UInt8), (56 : UInt8), (51 : UInt8), (56 : UInt8), (52 : UInt8), (56 : UInt8), (53 : UInt8), (56 : UInt8), (54 : UInt8), (56 : UInt8), (55 : UInt8), (56 : UInt8), (56 : UInt8), (56 : UInt8), (57 : UInt8), (57 : UInt8), (48 : UInt8), (57 : UInt8), (49 : UInt8), (57 : UInt8), (50 : UInt8), (57 : UInt8), (51 : UInt8), (57 : UInt8), (52 : UInt8), (57 : UInt8), (53 : UInt8), (57 : UInt8), (54 : UInt8), (57 : UInt8), (55 : UInt8), (57 : UInt8), (56 : UInt8), (57 : UInt8), (57 : UInt8)])).toArray).size : Int))
    · rw [if_pos q] at h
      refine ⟨(conjC q.1 (conjC q.2.1 (conjC q.2.2 conj0))), ?_⟩
      cases h; exact ⟨rfl, rfl⟩
    · rw [if_neg q] at h; cases h
theorem cc39 (k : Nat) (i_ : Int) (h : (f39 k i_).isSome = true) : CC Tryd.prog 39 (args39 i_) [] (res39 (v39 k i_)) (bo39 (v39 k i_)) := by
  cases e : f39 k i_ with
  | none => rw [e] at h; cases h
  | some r => rw [show v39 k i_ = r by simp [v39, e]]; exact of39 k i_ r e

end
end Go.AM
namespace Go.AM
open Go Go.Proofs
set_option linter.unusedVariables false
noncomputable section
/-! ### function 38: internal/strconv.FormatInt -/
def K38 (k : Nat) : Calld := ⟨fun g => match g with
  | 39 => some [false]
  | _ => none, fun g xs _ => match g with
  | 39 => match xs with
    | [.r (.v (.int .i64 i_))] => some (res39 (v39 k i_), bo39 (v39 k i_))
    | _ => none
  | _ => none⟩
abbrev R38 : Type := ByteArray
def res38 (r : R38) : AV := .r (.v (.string r))
def bo38 (r : R38) : List (Nat × Blk) := []
def f38 (k : Nat) (i_ : Int) (base_ : Int) : Option R38 :=
  bif (base_ == (10 : Int)) then
    bif (decide ((0 : Int) ≤ i_) && decide (i_ < (100 : Int))) then
      if ((f39 k i_).isSome = true) then
        some (v39 k i_)
      else none
    else
      bif (decide (i_ < (0 : Int))) then
        none
      else
        none
  else
    none
def args38 (i_ : Int) (base_ : Int) : List AV := [.r (.v (.int .i64 i_)), .r (.v (.int .i64 base_))]
def v38 (k : Nat) (i_ : Int) (base_ : Int) : R38 := (f38 k i_ base_).getD ByteArray.empty
theorem of38 (k : Nat) (i_ : Int) (base_ : Int) (r : R38) (h : f38 k i_ base_ = some r) : CC Tryd.prog 38 (args38 i_ base_) [] (res38 r) (bo38 r) := by
  refine CC.of (fn := Tryd.f38) (by kernel_rfl) (by kernel_rfl) (by kernel_rfl) (by kernel_rfl) ?_
  unfold f38 at h
  refine Ev.tree hm (R := Rt) (K := (K38 k)) (l := []) (C := []) (E := [.auto [4] true]) (n := 1000) (T := .test ((base_ == (10 : Int))) (.test ((decide ((0 : Int) ≤ i_) && decide (i_ < (100 : Int)))) (.need [CC Tryd.prog 39 (args39 i_) [] (res39 (v39 k i_)) (bo39 (v39 k i_))] (.leaf (res38 (v39 k i_)) (bo38 (v39 k i_)))) (.test ((decide (i_ < (0 : Int)))) (.stuck 2001) (.stuck 2001))) (.stuck 2005)) (by kernel_rfl) ?_
  refine ⟨fun c => ?_, fun c => ?_⟩
  · rw [cond_t c] at h
    refine ⟨fun c => ?_, fun c => ?_⟩
    · rw [cond_t c] at h
      by_cases q : ((f39 k i_).isSome = true)
      · rw [if_pos q] at h
        refine ⟨(conjC (cc39 k i_ q) conj0), ?_⟩
        cases h; exact ⟨rfl, rfl⟩
      · rw [if_neg q] at h; cases h
    · rw [cond_f c] at h
      refine ⟨fun c => ?_, fun c => ?_⟩
      · rw [cond_t c] at h
        cases h
      · rw [cond_f c] at h
        cases h
  · rw [cond_f c] at h
    cases h
theorem cc38 (k : Nat) (i_ : Int) (base_ : Int) (h : (f38 k i_ base_).isSome = true) : CC Tryd.prog 38 (args38 i_ base_) [] (res38 (v38 k i_ base_)) (bo38 (v38 k i_ base_)) := by
  cases e : f38 k i_ base_ with
  | none => rw [e] at h; cases h
  | some r => rw [show v38 k i_ base_ = r by simp [v38, e]]; exact of38 k i_ base_ r e

end
end Go.AM
namespace Go.AM
open Go Go.Proofs
set_option linter.unusedVariables false
noncomputable section
/-! ### function 37: internal/strconv.Itoa -/
def K37 (k : Nat) : Calld := ⟨fun g => match g with
  | 38 => some [false, false]
  | _ => none, fun g xs _ => match g with
  | 38 => match xs with
    | [.r (.v (.int .i64 i_)), .r (.v (.int .i64 base_))] => some (res38 (v38 k i_ base_), bo38 (v38 k i_ base_))
    | _ => none
  | _ => none⟩
abbrev R37 : Type := ByteArray
def res37 (r : R37) : AV := .r (.v (.string r))
def bo37 (r : R37) : List (Nat × Blk) := []
def f37 (k : Nat) (i_ : Int) : Option R37 :=
  if ((f38 k i_ 10).isSome = true) then
    some (v38 k i_ 10)
  else none
def args37 (i_ : Int) : List AV := [.r (.v (.int .i64 i_))]
def v37 (k : Nat) (i_ : Int) : R37 := (f37 k i_).getD ByteArray.empty
theorem of37 (k : Nat) (i_ : Int) (r : R37) (h : f37 k i_ = some r) : CC Tryd.prog 37 (args37 i_) [] (res37 r) (bo37 r) := by
  refine CC.of (fn := Tryd.f37) (by kernel_rfl) (by kernel_rfl) (by kernel_rfl) (by kernel_rfl) ?_
  unfold f37 at h
  refine Ev.tree hm (R := Rt) (K := (K37 k)) (l := []) (C := []) (E := [.auto [2] true]) (n := 1000) (T := .need [CC Tryd.prog 38 (args38 i_ 10) [] (res38 (v38 k i_ 10)) (bo38 (v38 k i_ 10))] (.leaf (res37 (v38 k i_ 10)) (bo37 (v38 k i_ 10)))) (by kernel_rfl) ?_
  by_cases q : ((f38 k i_ 10).isSome = true)
  · rw [if_pos q] at h
    refine ⟨(conjC (cc38 k i_ 10 q) conj0), ?_⟩
    cases h; exact ⟨rfl, rfl⟩
  · rw [if_neg q] at h; cases h
theorem cc37 (k : Nat) (i_ : Int) (h : (f37 k i_).isSome = true) : CC Tryd.prog 37 (args37 i_) [] (res37 (v37 k i_)) (bo37 (v37 k i_)) := by
  cases e : f37 k i_ with
  | none => rw [e] at h; cases h
  | some r => rw [show v37 k i_ = r by simp [v37, e]]; exact of37 k i_ r e

end
end Go.AM
namespace Go.AM
open Go Go.Proofs
set_option linter.unusedVariables false
noncomputable section
/-! ### function 33: strconv.Itoa -/
def K33 (k : Nat) : Calld := ⟨fun g => match g with
  | 37 => some [false]
  | _ => none, fun g xs _ => match g with
  | 37 => match xs with
    | [.r (.v (.int .i64 i_))] => some (res37 (v37 k i_), bo37 (v37 k i_))
    | _ => none
  | _ => none⟩
abbrev R33 : Type := ByteArray
def res33 (r : R33) : AV := .r (.v (.string r))
def bo33 (r : R33) : List (Nat × Blk) := []
def f33 (k : Nat) (i_ : Int) : Option R33 :=
  if ((f37 k i_).isSome = true) then
    some (v37 k i_)
  else none
def args33 (i_ : Int) : List AV := [.r (.v (.int .i64 i_))]
def v33 (k : Nat) (i_ : Int) : R33 := (f33 k i_).getD ByteArray.empty
theorem of33 (k : Nat) (i_ : Int) (r : R33) (h : f33 k i_ = some r) : CC Tryd.prog 33 (args33 i_) [] (res33 r) (bo33 r) := by
  refine CC.of (fn := Tryd.f33) (by kernel_rfl) (by kernel_rfl) (by kernel_rfl) (by kernel_rfl) ?_
  unfold f33 at h
  refine Ev.tree hm (R := Rt) (K := (K33 k)) (l := []) (C := []) (E := [.auto [2] true]) (n := 1000) (T := .need [CC Tryd.prog 37 (args37 i_) [] (res37 (v37 k i_)) (bo37 (v37 k i_))] (.leaf (res33 (v37 k i_)) (bo33 (v37 k i_)))) (by kernel_rfl) ?_
  by_cases q : ((f37 k i_).isSome = true)
  · rw [if_pos q] at h
    refine ⟨(conjC (cc37 k i_ q) conj0), ?_⟩
    cases h; exact ⟨rfl, rfl⟩
  · rw [if_neg q] at h; cases h
theorem cc33 (k : Nat) (i_ : Int) (h : (f33 k i_).isSome = true) : CC Tryd.prog 33 (args33 i_) [] (res33 (v33 k i_)) (bo33 (v33 k i_)) := by
  cases e : f33 k i_ with
  | none => rw [e] at h; cases h
  | some r => rw [show v33 k i_ = r by simp [v33, e]]; exact of33 k i_ r e

end
end Go.AM
namespace Go.AM
open Go Go.Proofs
set_option linter.unusedVariables false
noncomputable section
/-! ### function 34: papermill/clock.fields -/
def K34 (k : Nat) : Calld := ⟨fun g => match g with
  | _ => none, fun g xs _ => match g with
  | _ => none⟩
abbrev R34 : Type := Int × Int × Int
def res34 (r : R34) : AV := .agg [.r (.v (.int .i64 r.1)), .r (.v (.int .i64 r.2.1)), .r (.v (.int .i64 r.2.2))]
def bo34 (r : R34) : List (Nat × Blk) := []
def f34 (k : Nat) (t_ : Int) : Option R34 :=
  if ((86400 : Int) ≠ (0 : Int)) ∧ ((3600 : Int) ≠ (0 : Int)) ∧ ((3600 : Int) ≠ (0 : Int)) ∧ ((60 : Int) ≠ (0 : Int)) ∧ ((60 : Int) ≠ (0 : Int)) then
    some ((IntKind.i64.wrap ((t_.tmod 86400).tdiv 3600), IntKind.i64.wrap ((t_.tmod 3600).tdiv 60), t_.tmod 60))
  else none
def args34 (t_ : Int) : List AV := [.r (.v (.int .i64 t_))]
def v34 (k : Nat) (t_ : Int) : R34 := (f34 k t_).getD (0, 0, 0)
theorem of34 (k : Nat) (t_ : Int) (r : R34) (h : f34 k t_ = some r) : CC Tryd.prog 34 (args34 t_) [] (res34 r) (bo34 r) := by
  refine CC.of (fn := Tryd.f34) (by kernel_rfl) (by kernel_rfl) (by kernel_rfl) (by kernel_rfl) ?_
  unfold f34 at h
  refine Ev.tree hm (R := Rt) (K := (K34 k)) (l := []) (C := []) (E := [.auto [2] true]) (n := 1000) (T := .need [(86400 : Int) ≠ (0 : Int), (3600 : Int) ≠ (0 : Int), (3600 : Int) ≠ (0 : Int), (60 : Int) ≠ (0 : Int), (60 : Int) ≠ (0 : Int)] (.leaf (res34 ((IntKind.i64.wrap ((t_.tmod 86400).tdiv 3600), IntKind.i64.wrap ((t_.tmod 3600).tdiv 60), t_.tmod 60))) (bo34 ((IntKind.i64.wrap ((t_.tmod 86400).tdiv 3600), IntKind.i64.wrap ((t_.tmod 3600).tdiv 60), t_.tmod 60))))) (by kernel_rfl) ?_
  by_cases q : ((86400 : Int) ≠ (0 : Int)) ∧ ((3600 : Int) ≠ (0 : Int)) ∧ ((3600 : Int) ≠ (0 : Int)) ∧ ((60 : Int) ≠ (0 : Int)) ∧ ((60 : Int) ≠ (0 : Int))
  · rw [if_pos q] at h
    refine ⟨(conjC q.1 (conjC q.2.1 (conjC q.2.2.1 (conjC q.2.2.2.1 (conjC q.2.2.2.2 conj0))))), ?_⟩
    cases h; exact ⟨rfl, rfl⟩
  · rw [if_neg q] at h; cases h
theorem cc34 (k : Nat) (t_ : Int) (h : (f34 k t_).isSome = true) : CC Tryd.prog 34 (args34 t_) [] (res34 (v34 k t_)) (bo34 (v34 k t_)) := by
  cases e : f34 k t_ with
  | none => rw [e] at h; cases h
  | some r => rw [show v34 k t_ = r by simp [v34, e]]; exact of34 k t_ r e

end
end Go.AM
namespace Go.AM
open Go Go.Proofs
set_option linter.unusedVariables false
noncomputable section
/-! ### function 23: papermill/clock.Format -/
def K23 (k : Nat) : Calld := ⟨fun g => match g with
  | 27 => some [false]
  | 33 => some [false]
  | 34 => some [false]
  | _ => none, fun g xs _ => match g with
  | 27 => match xs with
    | [.r (.v (.int .i64 t_))] => some (res27 (v27 k t_), bo27 (v27 k t_))
    | _ => none
  | 33 => match xs with
    | [.r (.v (.int .i64 i_))] => some (res33 (v33 k i_), bo33 (v33 k i_))
    | _ => none
  | 34 => match xs with
    | [.r (.v (.int .i64 t_))] => some (res34 (v34 k t_), bo34 (v34 k t_))
    | _ => none
  | _ => none⟩
abbrev R23 : Type := ByteArray × Int
def res23 (r : R23) : AV := .tup [.r (.v (.string r.1)), .r (.v (.int .i64 r.2))]
def bo23 (r : R23) : List (Nat × Blk) := []
def st23_10006 (x0 : ByteArray) (x1 : ByteArray) (x2 : Int) (x3 : Int) (x4 : Int) : St := ⟨mkS 32 [(4, .r (.v (.string x0))), (5, .r (.v (.string x1))), (15, .agg [.r (.v (.int .i64 x2)), .r (.v (.int .i64 x3)), .r (.v (.int .i64 x4))]), (16, .r (.v (.int .i64 0)))], []⟩
def st23_20006 (x0 : ByteArray) (x1 : ByteArray) (x2 : Int) (x3 : Int) (x4 : Int) : St := ⟨mkS 32 [(4, .r (.v (.string x0))), (5, .r (.v (.string x1))), (15, .agg [.r (.v (.int .i64 x2)), .r (.v (.int .i64 x3)), .r (.v (.int .i64 x4))]), (16, .r (.v (.int .i64 1)))], []⟩
def st23_30006 (x0 : ByteArray) (x1 : ByteArray) (x2 : Int) (x3 : Int) (x4 : Int) : St := ⟨mkS 32 [(4, .r (.v (.string x0))), (5, .r (.v (.string x1))), (15, .agg [.r (.v (.int .i64 x2)), .r (.v (.int .i64 x3)), .r (.v (.int .i64 x4))]), (16, .r (.v (.int .i64 2)))], []⟩
def st23_40006 (x0 : ByteArray) (x1 : ByteArray) (x2 : Int) (x3 : Int) (x4 : Int) : St := ⟨mkS 32 [(4, .r (.v (.string x0))), (5, .r (.v (.string x1))), (15, .agg [.r (.v (.int .i64 x2)), .r (.v (.int .i64 x3)), .r (.v (.int .i64 x4))]), (16, .r (.v (.int .i64 3)))], []⟩
mutual
def f23_10006 (k : Nat) : Nat → ByteArray → ByteArray → Int → Int → Int → Option R23
  | 0, _, _, _, _, _ => none
  | j + 1, x0, x1, x2, x3, x4 =>
    if ((0 : Int) ≤ (0 : Int)) ∧ ((0 : Int) < (↑ (3 : Nat) : Int)) then
      if ((10 : Int) ≠ (0 : Int)) ∧ ((f33 k (IntKind.i64.wrap (x2.tdiv 10))).isSome = true) ∧ ((↑ (x1.size + ByteArray.size (v33 k (IntKind.i64.wrap (x2.tdiv (10 : Int))))) : Int) ≤ IntKind.i64.max) ∧ ((10 : Int) ≠ (0 : Int)) ∧ ((f33 k (x2.tmod 10)).isSome = true) ∧ ((↑ ((x1 ++ v33 k (IntKind.i64.wrap (x2.tdiv (10 : Int)))).size + ByteArray.size (v33 k (x2.tmod (10 : Int)))) : Int) ≤ IntKind.i64.max) ∧ ((↑ (x0.size + (x1 ++ v33 k (IntKind.i64.wrap (x2.tdiv (10 : Int))) ++ v33 k (x2.tmod (10 : Int))).size) : Int) ≤ IntKind.i64.max) then
        f23_20006 k j ((x0 ++ (x1 ++ v33 k (IntKind.i64.wrap (x2.tdiv 10)) ++ v33 k (x2.tmod 10)))) ((ByteArray.mk #[58])) x2 x3 x4
      else none
    else none
def f23_20006 (k : Nat) : Nat → ByteArray → ByteArray → Int → Int → Int → Option R23
  | 0, _, _, _, _, _ => none
  | j + 1, x0, x1, x2, x3, x4 =>
    if ((0 : Int) ≤ (1 : Int)) ∧ ((1 : Int) < (↑ (3 : Nat) : Int)) then
      if ((10 : Int) ≠ (0 : Int)) ∧ ((f33 k (IntKind.i64.wrap (x3.tdiv 10))).isSome = true) ∧ ((↑ (x1.size + ByteArray.size (v33 k (IntKind.i64.wrap (x3.tdiv (10 : Int))))) : Int) ≤ IntKind.i64.max) ∧ ((10 : Int) ≠ (0 : Int)) ∧ ((f33 k (x3.tmod 10)).isSome = true) ∧ ((↑ ((x1 ++ v33 k (IntKind.i64.wrap (x3.tdiv (10 : Int)))).size + ByteArray.size (v33 k (x3.tmod (10 : Int)))) : Int) ≤ IntKind.i64.max) ∧ ((↑ (x0.size + (x1 ++ v33 k (IntKind.i64.wrap (x3.tdiv (10 : Int))) ++ v33 k (x3.tmod (10 : Int))).size) : Int) ≤ IntKind.i64.max) then
        f23_30006 k j ((x0 ++ (x1 ++ v33 k (IntKind.i64.wrap (x3.tdiv 10)) ++ v33 k (x3.tmod 10)))) ((ByteArray.mk #[58])) x2 x3 x4
      else none
    else none
def f23_30006 (k : Nat) : Nat → ByteArray → ByteArray → Int → Int → Int → Option R23
  | 0, _, _, _, _, _ => none
  | j + 1, x0, x1, x2, x3, x4 =>
    if ((0 : Int) ≤ (2 : Int)) ∧ ((2 : Int) < (↑ (3 : Nat) : Int)) then
      if ((10 : Int) ≠ (0 : Int)) ∧ ((f33 k (IntKind.i64.wrap (x4.tdiv 10))).isSome = true) ∧ ((↑ (x1.size + ByteArray.size (v33 k (IntKind.i64.wrap (x4.tdiv (10 : Int))))) : Int) ≤ IntKind.i64.max) ∧ ((10 : Int) ≠ (0 : Int)) ∧ ((f33 k (x4.tmod 10)).isSome = true) ∧ ((↑ ((x1 ++ v33 k (IntKind.i64.wrap (x4.tdiv (10 : Int)))).size + ByteArray.size (v33 k (x4.tmod (10 : Int)))) : Int) ≤ IntKind.i64.max) ∧ ((↑ (x0.size + (x1 ++ v33 k (IntKind.i64.wrap (x4.tdiv (10 : Int))) ++ v33 k (x4.tmod (10 : Int))).size) : Int) ≤ IntKind.i64.max) then
        f23_40006 k j ((x0 ++ (x1 ++ v33 k (IntKind.i64.wrap (x4.tdiv 10)) ++ v33 k (x4.tmod 10)))) ((ByteArray.mk #[58])) x2 x3 x4
      else none
    else none
def f23_40006 (k : Nat) : Nat → ByteArray → ByteArray → Int → Int → Int → Option R23
  | 0, _, _, _, _, _ => none
  | j + 1, x0, x1, x2, x3, x4 =>
    some ((x0, 0))
end
def f23 (k : Nat) (t_ : Int) : Option R23 :=
  if ((f27 k t_).isSome = true) then
    bif (!v27 k t_) then
      some ((ByteArray.mk #[], 1))
    else
      if ((86400 : Int) ≠ (0 : Int)) ∧ ((f33 k (IntKind.i64.wrap (t_.tdiv 86400))).isSome = true) then
        if ((f34 k t_).isSome = true) then
          f23_10006 k k ((v33 k (IntKind.i64.wrap (t_.tdiv 86400)))) ((ByteArray.mk #[32])) ((v34 k t_).fst) ((v34 k t_).snd.fst) ((v34 k t_).snd.snd)
        else none
      else none
  else none
def args23 (t_ : Int) : List AV := [.r (.v (.int .i64 t_))]
def v23 (k : Nat) (t_ : Int) : R23 := (f23 k t_).getD (ByteArray.empty, 0)
theorem ev23 (k : Nat) : ∀ j, (∀ (x0 : ByteArray) (x1 : ByteArray) (x2 : Int) (x3 : Int) (x4 : Int) (r : R23), f23_10006 k j x0 x1 x2 x3 x4 = some r → Ev Tryd.prog Tryd.f23 0 (placeAt Tryd.f23 6) (st23_10006 x0 x1 x2 x3 x4) (res23 r) (bo23 r)) ∧ (∀ (x0 : ByteArray) (x1 : ByteArray) (x2 : Int) (x3 : Int) (x4 : Int) (r : R23), f23_20006 k j x0 x1 x2 x3 x4 = some r → Ev Tryd.prog Tryd.f23 0 (placeAt Tryd.f23 6) (st23_20006 x0 x1 x2 x3 x4) (res23 r) (bo23 r)) ∧ (∀ (x0 : ByteArray) (x1 : ByteArray) (x2 : Int) (x3 : Int) (x4 : Int) (r : R23), f23_30006 k j x0 x1 x2 x3 x4 = some r → Ev Tryd.prog Tryd.f23 0 (placeAt Tryd.f23 6) (st23_30006 x0 x1 x2 x3 x4) (res23 r) (bo23 r)) ∧ (∀ (x0 : ByteArray) (x1 : ByteArray) (x2 : Int) (x3 : Int) (x4 : Int) (r : R23), f23_40006 k j x0 x1 x2 x3 x4 = some r → Ev Tryd.prog Tryd.f23 0 (placeAt Tryd.f23 6) (st23_40006 x0 x1 x2 x3 x4) (res23 r) (bo23 r))
  | 0 => by
    refine ⟨?_, ?_, ?_, ?_⟩ <;> intros <;> rename_i h <;> simp [f23_10006, f23_20006, f23_30006, f23_40006] at h
  | j + 1 => by
    have ih := ev23 k j
    refine ⟨?_, ?_, ?_, ?_⟩
    · intro x0 x1 x2 x3 x4 r h
      rw [f23_10006] at h
      refine Ev.tree hm (R := Rt) (K := (K23 k)) (l := []) (C := [(6, [.key 16, .auto [4, 5, 15, 16] false])]) (E := [.auto [2, 3] true]) (n := 1000) (T := .test (true) (.need [(0 : Int) ≤ (0 : Int), (0 : Int) < (↑ (3 : Nat) : Int)] (.need [(10 : Int) ≠ (0 : Int), CC Tryd.prog 33 (args33 (IntKind.i64.wrap (x2.tdiv 10))) [] (res33 (v33 k (IntKind.i64.wrap (x2.tdiv 10)))) (bo33 (v33 k (IntKind.i64.wrap (x2.tdiv 10)))), (↑ (x1.size + ByteArray.size (v33 k (IntKind.i64.wrap (x2.tdiv (10 : Int))))) : Int) ≤ IntKind.i64.max, (10 : Int) ≠ (0 : Int), CC Tryd.prog 33 (args33 (x2.tmod 10)) [] (res33 (v33 k (x2.tmod 10))) (bo33 (v33 k (x2.tmod 10))), (↑ ((x1 ++ v33 k (IntKind.i64.wrap (x2.tdiv (10 : Int)))).size + ByteArray.size (v33 k (x2.tmod (10 : Int)))) : Int) ≤ IntKind.i64.max, (↑ (x0.size + (x1 ++ v33 k (IntKind.i64.wrap (x2.tdiv (10 : Int))) ++ v33 k (x2.tmod (10 : Int))).size) : Int) ≤ IntKind.i64.max] (.cut 20006 (placeAt Tryd.f23 6) (st23_20006 ((x0 ++ (x1 ++ v33 k (IntKind.i64.wrap (x2.tdiv 10)) ++ v33 k (x2.tmod 10)))) ((ByteArray.mk #[58])) x2 x3 x4)))) (.leaf (res23 ((x0, 0))) (bo23 ((x0, 0))))) (by kernel_rfl) ?_
      refine ⟨fun c => ?_, fun c => ?_⟩
      rotate_left
      · cases c
      by_cases q : ((0 : Int) ≤ (0 : Int)) ∧ ((0 : Int) < (↑ (3 : Nat) : Int))
      · rw [if_pos q] at h
        refine ⟨(conjC q.1 (conjC q.2 conj0)), ?_⟩
        by_cases q : ((10 : Int) ≠ (0 : Int)) ∧ ((f33 k (IntKind.i64.wrap (x2.tdiv 10))).isSome = true) ∧ ((↑ (x1.size + ByteArray.size (v33 k (IntKind.i64.wrap (x2.tdiv (10 : Int))))) : Int) ≤ IntKind.i64.max) ∧ ((10 : Int) ≠ (0 : Int)) ∧ ((f33 k (x2.tmod 10)).isSome = true) ∧ ((↑ ((x1 ++ v33 k (IntKind.i64.wrap (x2.tdiv (10 : Int)))).size + ByteArray.size (v33 k (x2.tmod (10 : Int)))) : Int) ≤ IntKind.i64.max) ∧ ((↑ (x0.size + (x1 ++ v33 k (IntKind.i64.wrap (x2.tdiv (10 : Int))) ++ v33 k (x2.tmod (10 : Int))).size) : Int) ≤ IntKind.i64.max)
        · rw [if_pos q] at h
          refine ⟨(conjC q.1 (conjC (cc33 k (IntKind.i64.wrap (x2.tdiv 10)) q.2.1) (conjC q.2.2.1 (conjC q.2.2.2.1 (conjC (cc33 k (x2.tmod 10) q.2.2.2.2.1) (conjC q.2.2.2.2.2.1 (conjC q.2.2.2.2.2.2 conj0))))))), ?_⟩
          exact ih.2.1 ((x0 ++ (x1 ++ v33 k (IntKind.i64.wrap (x2.tdiv 10)) ++ v33 k (x2.tmod 10)))) ((ByteArray.mk #[58])) x2 x3 x4 _ h
        · rw [if_neg q] at h; cases h
      · rw [if_neg q] at h; cases h
    · intro x0 x1 x2 x3 x4 r h
      rw [f23_20006] at h
      refine Ev.tree hm (R := Rt) (K := (K23 k)) (l := []) (C := [(6, [.key 16, .auto [4, 5, 15, 16] false])]) (E := [.auto [2, 3] true]) (n := 1000) (T := .test (true) (.need [(0 : Int) ≤ (1 : Int), (1 : Int) < (↑ (3 : Nat) : Int)] (.need [(10 : Int) ≠ (0 : Int), CC Tryd.prog 33 (args33 (IntKind.i64.wrap (x3.tdiv 10))) [] (res33 (v33 k (IntKind.i64.wrap (x3.tdiv 10)))) (bo33 (v33 k (IntKind.i64.wrap (x3.tdiv 10)))), (↑ (x1.size + ByteArray.size (v33 k (IntKind.i64.wrap (x3.tdiv (10 : Int))))) : Int) ≤ IntKind.i64.max, (10 : Int) ≠ (0 : Int), CC Tryd.prog 33 (args33 (x3.tmod 10)) [] (res33 (v33 k (x3.tmod 10))) (bo33 (v33 k (x3.tmod 10))), (↑ ((x1 ++ v33 k (IntKind.i64.wrap (x3.tdiv (10 : Int)))).size + ByteArray.size (v33 k (x3.tmod (10 : Int)))) : Int) ≤ IntKind.i64.max, (↑ (x0.size + (x1 ++ v33 k (IntKind.i64.wrap (x3.tdiv (10 : Int))) ++ v33 k (x3.tmod (10 : Int))).size) : Int) ≤ IntKind.i64.max] (.cut 30006 (placeAt Tryd.f23 6) (st23_30006 ((x0 ++ (x1 ++ v33 k (IntKind.i64.wrap (x3.tdiv 10)) ++ v33 k (x3.tmod 10)))) ((ByteArray.mk #[58])) x2 x3 x4)))) (.leaf (res23 ((x0, 0))) (bo23 ((x0, 0))))) (by kernel_rfl) ?_
      refine ⟨fun c => ?_, fun c => ?_⟩
      rotate_left
      · cases c
      by_cases q : ((0 : Int) ≤ (1 : Int)) ∧ ((1 : Int) < (↑ (3 : Nat) : Int))
      · rw [if_pos q] at h
        refine ⟨(conjC q.1 (conjC q.2 conj0)), ?_⟩
        by_cases q : ((10 : Int) ≠ (0 : Int)) ∧ ((f33 k (IntKind.i64.wrap (x3.tdiv 10))).isSome = true) ∧ ((↑ (x1.size + ByteArray.size (v33 k (IntKind.i64.wrap (x3.tdiv (10 : Int))))) : Int) ≤ IntKind.i64.max) ∧ ((10 : Int) ≠ (0 : Int)) ∧ ((f33 k (x3.tmod 10)).isSome = true) ∧ ((↑ ((x1 ++ v33 k (IntKind.i64.wrap (x3.tdiv (10 : Int)))).size + ByteArray.size (v33 k (x3.tmod (10 : Int)))) : Int) ≤ IntKind.i64.max) ∧ ((↑ (x0.size + (x1 ++ v33 k (IntKind.i64.wrap (x3.tdiv (10 : Int))) ++ v33 k (x3.tmod (10 : Int))).size) : Int) ≤ IntKind.i64.max)
        · rw [if_pos q] at h
          refine ⟨(conjC q.1 (conjC (cc33 k (IntKind.i64.wrap (x3.tdiv 10)) q.2.1) (conjC q.2.2.1 (conjC q.2.2.2.1 (conjC (cc33 k (x3.tmod 10) q.2.2.2.2.1) (conjC q.2.2.2.2.2.1 (conjC q.2.2.2.2.2.2 conj0))))))), ?_⟩
          exact ih.2.2.1 ((x0 ++ (x1 ++ v33 k (IntKind.i64.wrap (x3.tdiv 10)) ++ v33 k (x3.tmod 10)))) ((ByteArray.mk #[58])) x2 x3 x4 _ h
        · rw [if_neg q] at h; cases h
      · rw [if_neg q] at h; cases h
    · intro x0 x1 x2 x3 x4 r h
      rw [f23_30006] at h
      refine Ev.tree hm (R := Rt) (K := (K23 k)) (l := []) (C := [(6, [.key 16, .auto [4, 5, 15, 16] false])]) (E := [.auto [2, 3] true]) (n := 1000) (T := .test (true) (.need [(0 : Int) ≤ (2 : Int), (2 : Int) < (↑ (3 : Nat) : Int)] (.need [(10 : Int) ≠ (0 : Int), CC Tryd.prog 33 (args33 (IntKind.i64.wrap (x4.tdiv 10))) [] (res33 (v33 k (IntKind.i64.wrap (x4.tdiv 10)))) (bo33 (v33 k (IntKind.i64.wrap (x4.tdiv 10)))), (↑ (x1.size + ByteArray.size (v33 k (IntKind.i64.wrap (x4.tdiv (10 : Int))))) : Int) ≤ IntKind.i64.max, (10 : Int) ≠ (0 : Int), CC Tryd.prog 33 (args33 (x4.tmod 10)) [] (res33 (v33 k (x4.tmod 10))) (bo33 (v33 k (x4.tmod 10))), (↑ ((x1 ++ v33 k (IntKind.i64.wrap (x4.tdiv (10 : Int)))).size + ByteArray.size (v33 k (x4.tmod (10 : Int)))) : Int) ≤ IntKind.i64.max, (↑ (x0.size + (x1 ++ v33 k (IntKind.i64.wrap (x4.tdiv (10 : Int))) ++ v33 k (x4.tmod (10 : Int))).size) : Int) ≤ IntKind.i64.max] (.cut 40006 (placeAt Tryd.f23 6) (st23_40006 ((x0 ++ (x1 ++ v33 k (IntKind.i64.wrap (x4.tdiv 10)) ++ v33 k (x4.tmod 10)))) ((ByteArray.mk #[58])) x2 x3 x4)))) (.leaf (res23 ((x0, 0))) (bo23 ((x0, 0))))) (by kernel_rfl) ?_
      refine ⟨fun c => ?_, fun c => ?_⟩
      rotate_left
      · cases c
      by_cases q : ((0 : Int) ≤ (2 : Int)) ∧ ((2 : Int) < (↑ (3 : Nat) : Int))
      · rw [if_pos q] at h
        refine ⟨(conjC q.1 (conjC q.2 conj0)), ?_⟩
        by_cases q : ((10 : Int) ≠ (0 : Int)) ∧ ((f33 k (IntKind.i64.wrap (x4.tdiv 10))).isSome = true) ∧ ((↑ (x1.size + ByteArray.size (v33 k (IntKind.i64.wrap (x4.tdiv (10 : Int))))) : Int) ≤ IntKind.i64.max) ∧ ((10 : Int) ≠ (0 : Int)) ∧ ((f33 k (x4.tmod 10)).isSome = true) ∧ ((↑ ((x1 ++ v33 k (IntKind.i64.wrap (x4.tdiv (10 : Int)))).size + ByteArray.size (v33 k (x4.tmod (10 : Int)))) : Int) ≤ IntKind.i64.max) ∧ ((↑ (x0.size + (x1 ++ v33 k (IntKind.i64.wrap (x4.tdiv (10 : Int))) ++ v33 k (x4.tmod (10 : Int))).size) : Int) ≤ IntKind.i64.max)
        · rw [if_pos q] at h
          refine ⟨(conjC q.1 (conjC (cc33 k (IntKind.i64.wrap (x4.tdiv 10)) q.2.1) (conjC q.2.2.1 (conjC q.2.2.2.1 (conjC (cc33 k (x4.tmod 10) q.2.2.2.2.1) (conjC q.2.2.2.2.2.1 (conjC q.2.2.2.2.2.2 conj0))))))), ?_⟩
          exact ih.2.2.2 ((x0 ++ (x1 ++ v33 k (IntKind.i64.wrap (x4.tdiv 10)) ++ v33 k (x4.tmod 10)))) ((ByteArray.mk #[58])) x2 x3 x4 _ h
        · rw [if_neg q] at h; cases h
      · rw [if_neg q] at h; cases h
    · intro x0 x1 x2 x3 x4 r h
      rw [f23_40006] at h
      refine Ev.tree hm (R := Rt) (K := (K23 k)) (l := []) (C := [(6, [.key 16, .auto [4, 5, 15, 16] false])]) (E := [.auto [2, 3] true]) (n := 1000) (T := .test (false) (.stuck 5000) (.leaf (res23 ((x0, 0))) (bo23 ((x0, 0))))) (by kernel_rfl) ?_
      refine ⟨fun c => ?_, fun c => ?_⟩
      · cases c
      cases h; exact ⟨rfl, rfl⟩
theorem of23 (k : Nat) (t_ : Int) (r : R23) (h : f23 k t_ = some r) : CC Tryd.prog 23 (args23 t_) [] (res23 r) (bo23 r) := by
  refine CC.of (fn := Tryd.f23) (by kernel_rfl) (by kernel_rfl) (by kernel_rfl) (by kernel_rfl) ?_
  unfold f23 at h
  refine Ev.tree hm (R := Rt) (K := (K23 k)) (l := []) (C := [(6, [.key 16, .auto [4, 5, 15, 16] false])]) (E := [.auto [2, 3] true]) (n := 1000) (T := .need [CC Tryd.prog 27 (args27 t_) [] (res27 (v27 k t_)) (bo27 (v27 k t_))] (.test ((!v27 k t_)) (.leaf (res23 ((ByteArray.mk #[], 1))) (bo23 ((ByteArray.mk #[], 1)))) (.need [(86400 : Int) ≠ (0 : Int), CC Tryd.prog 33 (args33 (IntKind.i64.wrap (t_.tdiv 86400))) [] (res33 (v33 k (IntKind.i64.wrap (t_.tdiv 86400)))) (bo33 (v33 k (IntKind.i64.wrap (t_.tdiv 86400))))] (.need [CC Tryd.prog 34 (args34 t_) [] (res34 (v34 k t_)) (bo34 (v34 k t_))] (.cut 10006 (placeAt Tryd.f23 6) (st23_10006 ((v33 k (IntKind.i64.wrap (t_.tdiv 86400)))) ((ByteArray.mk #[32])) ((v34 k t_).fst) ((v34 k t_).snd.fst) ((v34 k t_).snd.snd))))))) (by kernel_rfl) ?_
  by_cases q : ((f27 k t_).isSome = true)
  · rw [if_pos q] at h
    refine ⟨(conjC (cc27 k t_ q) conj0), ?_⟩
    refine ⟨fun c => ?_, fun c => ?_⟩
    · rw [cond_t c] at h
      cases h; exact ⟨rfl, rfl⟩
    · rw [cond_f c] at h
      by_cases q : ((86400 : Int) ≠ (0 : Int)) ∧ ((f33 k (IntKind.i64.wrap (t_.tdiv 86400))).isSome = true)
      · rw [if_pos q] at h
        refine ⟨(conjC q.1 (conjC (cc33 k (IntKind.i64.wrap (t_.tdiv 86400)) q.2) conj0)), ?_⟩
        by_cases q : ((f34 k t_).isSome = true)
        · rw [if_pos q] at h
          refine ⟨(conjC (cc34 k t_ q) conj0), ?_⟩
          exact (ev23 k k).1 ((v33 k (IntKind.i64.wrap (t_.tdiv 86400)))) ((ByteArray.mk #[32])) ((v34 k t_).fst) ((v34 k t_).snd.fst) ((v34 k t_).snd.snd) _ h
        · rw [if_neg q] at h; cases h
      · rw [if_neg q] at h; cases h
  · rw [if_neg q] at h; cases h
theorem cc23 (k : Nat) (t_ : Int) (h : (f23 k t_).isSome = true) : CC Tryd.prog 23 (args23 t_) [] (res23 (v23 k t_)) (bo23 (v23 k t_)) := by
  cases e : f23 k t_ with
  | none => rw [e] at h; cases h
  | some r => rw [show v23 k t_ = r by simp [v23, e]]; exact of23 k t_ r e

end
end Go.AM
namespace Go.AM
open Go Go.Proofs
set_option linter.unusedVariables false
noncomputable section
def bs_H05f13_0 : ByteArray := ByteArray.mk #[(49 : UInt8), (32 : UInt8), (48 : UInt8), (51 : UInt8), (58 : UInt8), (52 : UInt8), (54 : UInt8), (58 : UInt8), (52 : UInt8), (48 : UInt8)]
/-! ### function 13: papermill/papermilllaw05.awake -/
def K13 (k : Nat) : Calld := ⟨fun g => match g with
  | 11 => some [false]
  | 14 => some [false, false]
  | 16 => some [false, false]
  | 18 => some [false]
  | 20 => some [false, false]
  | 23 => some [false]
  | _ => none, fun g xs _ => match g with
  | 11 => match xs with
    | [.r (.v (.int .i64 t_))] => some (res11 (v11 k t_), bo11 (v11 k t_))
    | _ => none
  | 14 => match xs with
    | [.r (.ro t0_ q0), .r (.v (.int .i64 t_))] => (castL t0_ I q0).bind fun pattern_ => some (res14 (v14 k pattern_ t_), bo14 (v14 k pattern_ t_))
    | _ => none
  | 16 => match xs with
    | [.r (.v (.int .i64 t_)), .r (.v (.int .i64 shift_))] => some (res16 (v16 k t_ shift_), bo16 (v16 k t_ shift_))
    | _ => none
  | 18 => match xs with
    | [.agg q0] => (decS [] t34 q0).bind fun s_ => some (res18 (v18 k s_), bo18 (v18 k s_))
    | _ => none
  | 20 => match xs with
    | [.r (.ro t0_ q0), .r (.ro t1_ q1)] => (castL t0_ t34 q0).bind fun a_ => (castL t1_ t34 q1).bind fun b_ => some (res20 (v20 k a_ b_), bo20 (v20 k a_ b_))
    | _ => none
  | 23 => match xs with
    | [.r (.v (.int .i64 t_))] => some (res23 (v23 k t_), bo23 (v23 k t_))
    | _ => none
  | _ => none⟩
abbrev R13 : Type := Bool
def res13 (r : R13) : AV := .r (.v (.bool r))
def bo13 (r : R13) : List (Nat × Blk) := []
def f13 (k : Nat)  : Option R13 :=
  if ((f23 k 100000).isSome = true) then
    if ((f11 k 100000).isSome = true) then
      if ((f16 k 1 0).isSome = true) then
        if ((f18 k (28000, 30000)).isSome = true) then
          if ((f14 k [4, 9] 57600).isSome = true) then
            bif ((v23 k (100000 : Int)).snd == (0 : Int) && (v11 k (100000 : Int)).snd.snd == (0 : Int) && (v16 k (1 : Int) (0 : Int)).snd == (0 : Int) && (v18 k ((28000 : Int), (30000 : Int))).fst == (0 : Int) && (v14 k [(4 : Int), (9 : Int)] (57600 : Int)).snd == (0 : Int) && (v23 k (100000 : Int)).fst.toList == bs_H05f13_0.toList && (v11 k (100000 : Int)).fst == (1 : Int) && (v11 k (100000 : Int)).snd.fst == (0 : Int) && (v16 k (1 : Int) (0 : Int)).fst == (86400 : Int) && (v14 k [(4 : Int), (9 : Int)] (57600 : Int)).fst == (4 : Int)) then
              if (((v23 k (100000 : Int)).snd == (0 : Int) && (v11 k (100000 : Int)).snd.snd == (0 : Int) && (v16 k (1 : Int) (0 : Int)).snd == (0 : Int) && (v18 k ((28000 : Int), (30000 : Int))).fst == (0 : Int) && (v14 k [(4 : Int), (9 : Int)] (57600 : Int)).snd == (0 : Int) && (v23 k (100000 : Int)).fst.toList == bs_H05f13_0.toList && (v11 k (100000 : Int)).fst == (1 : Int) && (v11 k (100000 : Int)).snd.fst == (0 : Int) && (v16 k (1 : Int) (0 : Int)).fst == (86400 : Int) && (v14 k [(4 : Int), (9 : Int)] (57600 : Int)).fst == (4 : Int)) = true) ∧ ((f20 k (v18 k (28000, 30000)).snd [(28000, 28800), (28800, 30000)]).isSome = true) then
                some (true && v20 k (v18 k (28000, 30000)).snd [(28000, 28800), (28800, 30000)])
              else none
            else
              if (((v23 k (100000 : Int)).snd == (0 : Int) && (v11 k (100000 : Int)).snd.snd == (0 : Int) && (v16 k (1 : Int) (0 : Int)).snd == (0 : Int) && (v18 k ((28000 : Int), (30000 : Int))).fst == (0 : Int) && (v14 k [(4 : Int), (9 : Int)] (57600 : Int)).snd == (0 : Int) && (v23 k (100000 : Int)).fst.toList == bs_H05f13_0.toList && (v11 k (100000 : Int)).fst == (1 : Int) && (v11 k (100000 : Int)).snd.fst == (0 : Int) && (v16 k (1 : Int) (0 : Int)).fst == (86400 : Int) && (v14 k [(4 : Int), (9 : Int)] (57600 : Int)).fst == (4 : Int)) = false) then
                some false
              else none
          else none
        else none
      else none
    else none
  else none
def args13  : List AV := []
def v13 (k : Nat)  : R13 := (f13 k ).getD false
theorem of13 (k : Nat)  (r : R13) (h : f13 k  = some r) : CC Tryd.prog 13 (args13 ) [] (res13 r) (bo13 r) := by
  refine CC.of (fn := Tryd.f13) (by kernel_rfl) (by kernel_rfl) (by kernel_rfl) (by kernel_rfl) ?_
  unfold f13 at h
  refine Ev.tree hm (R := Rt) (K := (K13 k)) (l := []) (C := []) (E := [.auto [0] true]) (n := 1000) (T := .need [CC Tryd.prog 23 (args23 100000) [] (res23 (v23 k 100000)) (bo23 (v23 k 100000))] (.need [CC Tryd.prog 11 (args11 100000) [] (res11 (v11 k 100000)) (bo11 (v11 k 100000))] (.need [CC Tryd.prog 16 (args16 1 0) [] (res16 (v16 k 1 0)) (bo16 (v16 k 1 0))] (.need [CC Tryd.prog 18 (args18 (28000, 30000)) [] (res18 (v18 k (28000, 30000))) (bo18 (v18 k (28000, 30000)))] (.need [CC Tryd.prog 14 (args14 [4, 9] 57600) [] (res14 (v14 k [4, 9] 57600)) (bo14 (v14 k [4, 9] 57600))] (.test (((v23 k (100000 : Int)).snd == (0 : Int) && (v11 k (100000 : Int)).snd.snd == (0 : Int) && (v16 k (1 : Int) (0 : Int)).snd == (0 : Int) && (v18 k ((28000 : Int), (30000 : Int))).fst == (0 : Int) && (v14 k [(4 : Int), (9 : Int)] (57600 : Int)).snd == (0 : Int) && (v23 k (100000 : Int)).fst.toList == bs_H05f13_0.toList && (v11 k (100000 : Int)).fst == (1 : Int) && (v11 k (100000 : Int)).snd.fst == (0 : Int) && (v16 k (1 : Int) (0 : Int)).fst == (86400 : Int) && (v14 k [(4 : Int), (9 : Int)] (57600 : Int)).fst == (4 : Int))) (.need [((v23 k (100000 : Int)).snd == (0 : Int) && (v11 k (100000 : Int)).snd.snd == (0 : Int) && (v16 k (1 : Int) (0 : Int)).snd == (0 : Int) && (v18 k ((28000 : Int), (30000 : Int))).fst == (0 : Int) && (v14 k [(4 : Int), (9 : Int)] (57600 : Int)).snd == (0 : Int) && (v23 k (100000 : Int)).fst.toList == bs_H05f13_0.toList && (v11 k (100000 : Int)).fst == (1 : Int) && (v11 k (100000 : Int)).snd.fst == (0 : Int) && (v16 k (1 : Int) (0 : Int)).fst == (86400 : Int) && (v14 k [(4 : Int), (9 : Int)] (57600 : Int)).fst == (4 : Int)) = true, CC Tryd.prog 20 (args20 (v18 k (28000, 30000)).snd [(28000, 28800), (28800, 30000)]) [] (res20 (v20 k (v18 k (28000, 30000)).snd [(28000, 28800), (28800, 30000)])) (bo20 (v20 k (v18 k (28000, 30000)).snd [(28000, 28800), (28800, 30000)]))] (.leaf (res13 (true && v20 k (v18 k (28000, 30000)).snd [(28000, 28800), (28800, 30000)])) (bo13 (true && v20 k (v18 k (28000, 30000)).snd [(28000, 28800), (28800, 30000)])))) (.need [((v23 k (100000 : Int)).snd == (0 : Int) && (v11 k (100000 : Int)).snd.snd == (0 : Int) && (v16 k (1 : Int) (0 : Int)).snd == (0 : Int) && (v18 k ((28000 : Int), (30000 : Int))).fst == (0 : Int) && (v14 k [(4 : Int), (9 : Int)] (57600 : Int)).snd == (0 : Int) && (v23 k (100000 : Int)).fst.toList == bs_H05f13_0.toList && (v11 k (100000 : Int)).fst == (1 : Int) && (v11 k (100000 : Int)).snd.fst == (0 : Int) && (v16 k (1 : Int) (0 : Int)).fst == (86400 : Int) && (v14 k [(4 : Int), (9 : Int)] (57600 : Int)).fst == (4 : Int)) = false] (.leaf (res13 false) (bo13 false))))))))) (by kernel_rfl) ?_
  by_cases q : ((f23 k 100000).isSome = true)
  · rw [if_pos q] at h
    refine ⟨(conjC (cc23 k 100000 q) conj0), ?_⟩
    by_cases q : ((f11 k 100000).isSome = true)
    · rw [if_pos q] at h
      refine ⟨(conjC (cc11 k 100000 q) conj0), ?_⟩
      by_cases q : ((f16 k 1 0).isSome = true)
      · rw [if_pos q] at h
        refine ⟨(conjC (cc16 k 1 0 q) conj0), ?_⟩
        by_cases q : ((f18 k (28000, 30000)).isSome = true)
        · rw [if_pos q] at h
          refine ⟨(conjC (cc18 k (28000, 30000) q) conj0), ?_⟩
          by_cases q : ((f14 k [4, 9] 57600).isSome = true)
          · rw [if_pos q] at h
            refine ⟨(conjC (cc14 k [4, 9] 57600 q) conj0), ?_⟩
            refine ⟨fun c => ?_, fun c => ?_⟩
            · rw [cond_t c] at h
              by_cases q : (((v23 k (100000 : Int)).snd == (0 : Int) && (v11 k (100000 : Int)).snd.snd == (0 : Int) && (v16 k (1 : Int) (0 : Int)).snd == (0 : Int) && (v18 k ((28000 : Int), (30000 : Int))).fst == (0 : Int) && (v14 k [(4 : Int), (9 : Int)] (57600 : Int)).snd == (0 : Int) && (v23 k (100000 : Int)).fst.toList == bs_H05f13_0.toList && (v11 k (100000 : Int)).fst == (1 : Int) && (v11 k (100000 : Int)).snd.fst == (0 : Int) && (v16 k (1 : Int) (0 : Int)).fst == (86400 : Int) && (v14 k [(4 : Int), (9 : Int)] (57600 : Int)).fst == (4 : Int)) = true) ∧ ((f20 k (v18 k (28000, 30000)).snd [(28000, 28800), (28800, 30000)]).isSome = true)
              · rw [if_pos q] at h
                refine ⟨(conjC q.1 (conjC (cc20 k (v18 k (28000, 30000)).snd [(28000, 28800), (28800, 30000)] q.2) conj0)), ?_⟩
                cases h; exact ⟨rfl, rfl⟩
              · rw [if_neg q] at h; cases h
            · rw [cond_f c] at h
              by_cases q : (((v23 k (100000 : Int)).snd == (0 : Int) && (v11 k (100000 : Int)).snd.snd == (0 : Int) && (v16 k (1 : Int) (0 : Int)).snd == (0 : Int) && (v18 k ((28000 : Int), (30000 : Int))).fst == (0 : Int) && (v14 k [(4 : Int), (9 : Int)] (57600 : Int)).snd == (0 : Int) && (v23 k (100000 : Int)).fst.toList == bs_H05f13_0.toList && (v11 k (100000 : Int)).fst == (1 : Int) && (v11 k (100000 : Int)).snd.fst == (0 : Int) && (v16 k (1 : Int) (0 : Int)).fst == (86400 : Int) && (v14 k [(4 : Int), (9 : Int)] (57600 : Int)).fst == (4 : Int)) = false)
              · rw [if_pos q] at h
                refine ⟨(conjC q conj0), ?_⟩
                cases h; exact ⟨rfl, rfl⟩
              · rw [if_neg q] at h; cases h
          · rw [if_neg q] at h; cases h
        · rw [if_neg q] at h; cases h
      · rw [if_neg q] at h; cases h
    · rw [if_neg q] at h; cases h
  · rw [if_neg q] at h; cases h
theorem cc13 (k : Nat)  (h : (f13 k ).isSome = true) : CC Tryd.prog 13 (args13 ) [] (res13 (v13 k )) (bo13 (v13 k )) := by
  cases e : f13 k  with
  | none => rw [e] at h; cases h
  | some r => rw [show v13 k  = r by simp [v13, e]]; exact of13 k  r e

end
end Go.AM
namespace Go.AM
open Go Go.Proofs
set_option linter.unusedVariables false
noncomputable section
/-! ### function 3: papermill/papermilllaw05.ClockShifts -/
def K3 (k : Nat) : Calld := ⟨fun g => match g with
  | 11 => some [false]
  | 12 => some [false]
  | 13 => some []
  | _ => none, fun g xs _ => match g with
  | 11 => match xs with
    | [.r (.v (.int .i64 t_))] => some (res11 (v11 k t_), bo11 (v11 k t_))
    | _ => none
  | 12 => match xs with
    | [.r (.v (.int .i64 t_))] => some (res12 (v12 k t_), bo12 (v12 k t_))
    | _ => none
  | 13 => match xs with
    | [] => some (res13 (v13 k ), bo13 (v13 k ))
    | _ => none
  | _ => none⟩
abbrev R3 : Type := Bool
def res3 (r : R3) : AV := .r (.v (.bool r))
def bo3 (r : R3) : List (Nat × Blk) := []
def f3 (k : Nat) (t_ : Int) : Option R3 :=
  if ((f11 k t_).isSome = true) then
    if ((f12 k t_).isSome = true) then
      bif ((v11 k t_).fst == (v12 k t_).fst && (v11 k t_).snd.fst == (v12 k t_).snd.fst && (v11 k t_).snd.snd == (v12 k t_).snd.snd) then
        if (((v11 k t_).fst == (v12 k t_).fst && (v11 k t_).snd.fst == (v12 k t_).snd.fst && (v11 k t_).snd.snd == (v12 k t_).snd.snd) = true) ∧ ((f13 k ).isSome = true) then
          some (true && v13 k)
        else none
      else
        if (((v11 k t_).fst == (v12 k t_).fst && (v11 k t_).snd.fst == (v12 k t_).snd.fst && (v11 k t_).snd.snd == (v12 k t_).snd.snd) = false) then
          some false
        else none
    else none
  else none
def args3 (t_ : Int) : List AV := [.r (.v (.int .i64 t_))]
def v3 (k : Nat) (t_ : Int) : R3 := (f3 k t_).getD false
theorem of3 (k : Nat) (t_ : Int) (r : R3) (h : f3 k t_ = some r) : CC Tryd.prog 3 (args3 t_) [] (res3 r) (bo3 r) := by
  refine CC.of (fn := Tryd.f3) (by kernel_rfl) (by kernel_rfl) (by kernel_rfl) (by kernel_rfl) ?_
  unfold f3 at h
  refine Ev.tree hm (R := Rt) (K := (K3 k)) (l := []) (C := []) (E := [.auto [2] true]) (n := 1000) (T := .need [CC Tryd.prog 11 (args11 t_) [] (res11 (v11 k t_)) (bo11 (v11 k t_))] (.need [CC Tryd.prog 12 (args12 t_) [] (res12 (v12 k t_)) (bo12 (v12 k t_))] (.test (((v11 k t_).fst == (v12 k t_).fst && (v11 k t_).snd.fst == (v12 k t_).snd.fst && (v11 k t_).snd.snd == (v12 k t_).snd.snd)) (.need [((v11 k t_).fst == (v12 k t_).fst && (v11 k t_).snd.fst == (v12 k t_).snd.fst && (v11 k t_).snd.snd == (v12 k t_).snd.snd) = true, CC Tryd.prog 13 (args13 ) [] (res13 (v13 k )) (bo13 (v13 k ))] (.leaf (res3 (true && v13 k)) (bo3 (true && v13 k)))) (.need [((v11 k t_).fst == (v12 k t_).fst && (v11 k t_).snd.fst == (v12 k t_).snd.fst && (v11 k t_).snd.snd == (v12 k t_).snd.snd) = false] (.leaf (res3 false) (bo3 false)))))) (by kernel_rfl) ?_
  by_cases q : ((f11 k t_).isSome = true)
  · rw [if_pos q] at h
    refine ⟨(conjC (cc11 k t_ q) conj0), ?_⟩
    by_cases q : ((f12 k t_).isSome = true)
    · rw [if_pos q] at h
      refine ⟨(conjC (cc12 k t_ q) conj0), ?_⟩
      refine ⟨fun c => ?_, fun c => ?_⟩
      · rw [cond_t c] at h
        by_cases q : (((v11 k t_).fst == (v12 k t_).fst && (v11 k t_).snd.fst == (v12 k t_).snd.fst && (v11 k t_).snd.snd == (v12 k t_).snd.snd) = true) ∧ ((f13 k ).isSome = true)
        · rw [if_pos q] at h
          refine ⟨(conjC q.1 (conjC (cc13 k  q.2) conj0)), ?_⟩
          cases h; exact ⟨rfl, rfl⟩
        · rw [if_neg q] at h; cases h
      · rw [cond_f c] at h
        by_cases q : (((v11 k t_).fst == (v12 k t_).fst && (v11 k t_).snd.fst == (v12 k t_).snd.fst && (v11 k t_).snd.snd == (v12 k t_).snd.snd) = false)
        · rw [if_pos q] at h
          refine ⟨(conjC q conj0), ?_⟩
          cases h; exact ⟨rfl, rfl⟩
        · rw [if_neg q] at h; cases h
    · rw [if_neg q] at h; cases h
  · rw [if_neg q] at h; cases h
theorem cc3 (k : Nat) (t_ : Int) (h : (f3 k t_).isSome = true) : CC Tryd.prog 3 (args3 t_) [] (res3 (v3 k t_)) (bo3 (v3 k t_)) := by
  cases e : f3 k t_ with
  | none => rw [e] at h; cases h
  | some r => rw [show v3 k t_ = r by simp [v3, e]]; exact of3 k t_ r e

end
end Go.AM
namespace Go.AM
open Go Go.Proofs
set_option linter.unusedVariables false
noncomputable section
/-! ### function 15: papermill/papermillref05.Crew -/
def K15 (k : Nat) : Calld := ⟨fun g => match g with
  | 28 => some [false]
  | _ => none, fun g xs _ => match g with
  | 28 => match xs with
    | [.r (.v (.int .i64 t_))] => some (res28 (v28 k t_), bo28 (v28 k t_))
    | _ => none
  | _ => none⟩
abbrev R15 : Type := Int × Int
def res15 (r : R15) : AV := .tup [.r (.v (.int .i64 r.1)), .r (.v (.int .i64 r.2))]
def bo15 (r : R15) : List (Nat × Blk) := []
def st15_6 (x0 : List (I).T) (x1 : Int) (x2 : Int) : St := ⟨mkS 42 [(0, .r (.ro I x0)), (1, .r (.v (.int .i64 x1))), (6, .r (.v (.int .i64 x2)))], []⟩
def f15_6 (k : Nat) : Nat → List (I).T → Int → Int → Option R15
  | 0, _, _, _ => none
  | j + 1, x0, x1, x2 =>
    bif (decide (x2 < (↑x0.length : Int))) then
      if ((0 : Int) ≤ x2) ∧ (x2 < (↑x0.length : Int)) ∧ (decide (x0.getD x2.toNat I.dflt < (0 : Int)) = false → (0 : Int) ≤ x2) ∧ (decide (x0.getD x2.toNat I.dflt < (0 : Int)) = false → x2 < (↑x0.length : Int)) then
        bif (decide (x0.getD x2.toNat I.dflt < (0 : Int)) || decide (x0.getD x2.toNat I.dflt > (15 : Int))) then
          some ((0, 1))
        else
          f15_6 k j x0 x1 ((IntKind.i64.wrap (x2 + 1)))
      else none
    else
      if ((f28 k x1).isSome = true) then
        bif (!v28 k x1) then
          some ((0, 1))
        else
          if ((28800 : Int) ≠ (0 : Int)) ∧ ((↑x0.length : Int) ≠ (0 : Int)) ∧ ((0 : Int) ≤ (IntKind.i64.wrap (x1.tdiv (28800 : Int))).tmod (↑x0.length : Int)) ∧ ((IntKind.i64.wrap (x1.tdiv (28800 : Int))).tmod (↑x0.length : Int) < (↑x0.length : Int)) then
            some ((x0.getD ((IntKind.i64.wrap (x1.tdiv 28800)).tmod (↑x0.length : Int)).toNat I.dflt, 0))
          else none
      else none
def f15 (k : Nat) (pattern_ : List (I).T) (t_ : Int) : Option R15 :=
  bif ((↑pattern_.length : Int) == (0 : Int)) then
    some ((0, 10))
  else
    bif (decide ((↑pattern_.length : Int) > (64 : Int))) then
      some ((0, 8))
    else
      f15_6 k k pattern_ t_ 0
def args15 (pattern_ : List (I).T) (t_ : Int) : List AV := [.r (.ro I pattern_), .r (.v (.int .i64 t_))]
def v15 (k : Nat) (pattern_ : List (I).T) (t_ : Int) : R15 := (f15 k pattern_ t_).getD (0, 0)
theorem ev15 (k : Nat) : ∀ j, (∀ (x0 : List (I).T) (x1 : Int) (x2 : Int) (r : R15), f15_6 k j x0 x1 x2 = some r → Ev Tryd.prog Tryd.f15 0 (placeAt Tryd.f15 6) (st15_6 x0 x1 x2) (res15 r) (bo15 r))
  | 0 => by
    intros; rename_i h; simp [f15_6] at h
  | j + 1 => by
    have ih := ev15 k j
    · intro x0 x1 x2 r h
      rw [f15_6] at h
      refine Ev.tree hm (R := Rt) (K := (K15 k)) (l := []) (C := [(6, [.auto [0, 1, 6] false])]) (E := [.auto [4, 5] true]) (n := 1000) (T := .test ((decide (x2 < (↑x0.length : Int)))) (.need [(0 : Int) ≤ x2, x2 < (↑x0.length : Int), decide (x0.getD x2.toNat I.dflt < (0 : Int)) = false → (0 : Int) ≤ x2, decide (x0.getD x2.toNat I.dflt < (0 : Int)) = false → x2 < (↑x0.length : Int)] (.test ((decide (x0.getD x2.toNat I.dflt < (0 : Int)) || decide (x0.getD x2.toNat I.dflt > (15 : Int)))) (.leaf (res15 ((0, 1))) (bo15 ((0, 1)))) (.cut 6 (placeAt Tryd.f15 6) (st15_6 x0 x1 ((IntKind.i64.wrap (x2 + 1))))))) (.need [CC Tryd.prog 28 (args28 x1) [] (res28 (v28 k x1)) (bo28 (v28 k x1))] (.test ((!v28 k x1)) (.leaf (res15 ((0, 1))) (bo15 ((0, 1)))) (.need [(28800 : Int) ≠ (0 : Int), (↑x0.length : Int) ≠ (0 : Int), (0 : Int) ≤ (IntKind.i64.wrap (x1.tdiv (28800 : Int))).tmod (↑x0.length : Int), (IntKind.i64.wrap (x1.tdiv (28800 : Int))).tmod (↑x0.length : Int) < (↑x0.length : Int)] (.leaf (res15 ((x0.getD ((IntKind.i64.wrap (x1.tdiv 28800)).tmod (↑x0.length : Int)).toNat I.dflt, 0))) (bo15 ((x0.getD ((IntKind.i64.wrap (x1.tdiv 28800)).tmod (↑x0.length : Int)).toNat I.dflt, 0)))))))) (by kernel_rfl) ?_
      refine ⟨fun c => ?_, fun c => ?_⟩
      · rw [cond_t c] at h
        by_cases q : ((0 : Int) ≤ x2) ∧ (x2 < (↑x0.length : Int)) ∧ (decide (x0.getD x2.toNat I.dflt < (0 : Int)) = false → (0 : Int) ≤ x2) ∧ (decide (x0.getD x2.toNat I.dflt < (0 : Int)) = false → x2 < (↑x0.length : Int))
        · rw [if_pos q] at h
          refine ⟨(conjC q.1 (conjC q.2.1 (conjC q.2.2.1 (conjC q.2.2.2 conj0)))), ?_⟩
          refine ⟨fun c => ?_, fun c => ?_⟩
          · rw [cond_t c] at h
            cases h; exact ⟨rfl, rfl⟩
          · rw [cond_f c] at h
            exact ih x0 x1 ((IntKind.i64.wrap (x2 + 1))) _ h
        · rw [if_neg q] at h; cases h
      · rw [cond_f c] at h
        by_cases q : ((f28 k x1).isSome = true)
        · rw [if_pos q] at h
          refine ⟨(conjC (cc28 k x1 q) conj0), ?_⟩
          refine ⟨fun c => ?_, fun c => ?_⟩
          · rw [cond_t c] at h
            cases h; exact ⟨rfl, rfl⟩
          · rw [cond_f c] at h
            by_cases q : ((28800 : Int) ≠ (0 : Int)) ∧ ((↑x0.length : Int) ≠ (0 : Int)) ∧ ((0 : Int) ≤ (IntKind.i64.wrap (x1.tdiv (28800 : Int))).tmod (↑x0.length : Int)) ∧ ((IntKind.i64.wrap (x1.tdiv (28800 : Int))).tmod (↑x0.length : Int) < (↑x0.length : Int))
            · rw [if_pos q] at h
              refine ⟨(conjC q.1 (conjC q.2.1 (conjC q.2.2.1 (conjC q.2.2.2 conj0)))), ?_⟩
              cases h; exact ⟨rfl, rfl⟩
            · rw [if_neg q] at h; cases h
        · rw [if_neg q] at h; cases h
theorem of15 (k : Nat) (pattern_ : List (I).T) (t_ : Int) (r : R15) (h : f15 k pattern_ t_ = some r) : CC Tryd.prog 15 (args15 pattern_ t_) [] (res15 r) (bo15 r) := by
  refine CC.of (fn := Tryd.f15) (by kernel_rfl) (by kernel_rfl) (by kernel_rfl) (by kernel_rfl) ?_
  unfold f15 at h
  refine Ev.tree hm (R := Rt) (K := (K15 k)) (l := []) (C := [(6, [.auto [0, 1, 6] false])]) (E := [.auto [4, 5] true]) (n := 1000) (T := .test (((↑pattern_.length : Int) == (0 : Int))) (.leaf (res15 ((0, 10))) (bo15 ((0, 10)))) (.test ((decide ((↑pattern_.length : Int) > (64 : Int)))) (.leaf (res15 ((0, 8))) (bo15 ((0, 8)))) (.cut 6 (placeAt Tryd.f15 6) (st15_6 pattern_ t_ 0)))) (by kernel_rfl) ?_
  refine ⟨fun c => ?_, fun c => ?_⟩
  · rw [cond_t c] at h
    cases h; exact ⟨rfl, rfl⟩
  · rw [cond_f c] at h
    refine ⟨fun c => ?_, fun c => ?_⟩
    · rw [cond_t c] at h
      cases h; exact ⟨rfl, rfl⟩
    · rw [cond_f c] at h
      exact (ev15 k k) pattern_ t_ 0 _ h
theorem cc15 (k : Nat) (pattern_ : List (I).T) (t_ : Int) (h : (f15 k pattern_ t_).isSome = true) : CC Tryd.prog 15 (args15 pattern_ t_) [] (res15 (v15 k pattern_ t_)) (bo15 (v15 k pattern_ t_)) := by
  cases e : f15 k pattern_ t_ with
  | none => rw [e] at h; cases h
  | some r => rw [show v15 k pattern_ t_ = r by simp [v15, e]]; exact of15 k pattern_ t_ r e

end
end Go.AM
namespace Go.AM
open Go Go.Proofs
set_option linter.unusedVariables false
noncomputable section
/-! ### function 4: papermill/papermilllaw05.ClockCrews -/
def K4 (k : Nat) : Calld := ⟨fun g => match g with
  | 14 => some [false, false]
  | 13 => some []
  | 15 => some [false, false]
  | _ => none, fun g xs _ => match g with
  | 14 => match xs with
    | [.r (.ro t0_ q0), .r (.v (.int .i64 t_))] => (castL t0_ I q0).bind fun pattern_ => some (res14 (v14 k pattern_ t_), bo14 (v14 k pattern_ t_))
    | _ => none
  | 13 => match xs with
    | [] => some (res13 (v13 k ), bo13 (v13 k ))
    | _ => none
  | 15 => match xs with
    | [.r (.ro t0_ q0), .r (.v (.int .i64 t_))] => (castL t0_ I q0).bind fun pattern_ => some (res15 (v15 k pattern_ t_), bo15 (v15 k pattern_ t_))
    | _ => none
  | _ => none⟩
abbrev R4 : Type := Bool
def res4 (r : R4) : AV := .r (.v (.bool r))
def bo4 (r : R4) : List (Nat × Blk) := []
def f4 (k : Nat) (pattern_ : List (I).T) (t_ : Int) : Option R4 :=
  bif (decide ((↑pattern_.length : Int) > (200 : Int))) then
    if ((f13 k ).isSome = true) then
      some (v13 k)
    else none
  else
    if ((f14 k pattern_ t_).isSome = true) then
      if ((f15 k pattern_ t_).isSome = true) then
        bif ((v14 k pattern_ t_).fst == (v15 k pattern_ t_).fst && (v14 k pattern_ t_).snd == (v15 k pattern_ t_).snd) then
          if (((v14 k pattern_ t_).fst == (v15 k pattern_ t_).fst && (v14 k pattern_ t_).snd == (v15 k pattern_ t_).snd) = true) ∧ ((f13 k ).isSome = true) then
            some (true && v13 k)
          else none
        else
          if (((v14 k pattern_ t_).fst == (v15 k pattern_ t_).fst && (v14 k pattern_ t_).snd == (v15 k pattern_ t_).snd) = false) then
            some false
          else none
      else none
    else none
def args4 (pattern_ : List (I).T) (t_ : Int) : List AV := [.r (.ro I pattern_), .r (.v (.int .i64 t_))]
def v4 (k : Nat) (pattern_ : List (I).T) (t_ : Int) : R4 := (f4 k pattern_ t_).getD false
theorem of4 (k : Nat) (pattern_ : List (I).T) (t_ : Int) (r : R4) (h : f4 k pattern_ t_ = some r) : CC Tryd.prog 4 (args4 pattern_ t_) [] (res4 r) (bo4 r) := by
  refine CC.of (fn := Tryd.f4) (by kernel_rfl) (by kernel_rfl) (by kernel_rfl) (by kernel_rfl) ?_
  unfold f4 at h
  refine Ev.tree hm (R := Rt) (K := (K4 k)) (l := []) (C := []) (E := [.auto [4] true]) (n := 1000) (T := .test ((decide ((↑pattern_.length : Int) > (200 : Int)))) (.need [CC Tryd.prog 13 (args13 ) [] (res13 (v13 k )) (bo13 (v13 k ))] (.leaf (res4 (v13 k)) (bo4 (v13 k)))) (.need [CC Tryd.prog 14 (args14 pattern_ t_) [] (res14 (v14 k pattern_ t_)) (bo14 (v14 k pattern_ t_))] (.need [CC Tryd.prog 15 (args15 pattern_ t_) [] (res15 (v15 k pattern_ t_)) (bo15 (v15 k pattern_ t_))] (.test (((v14 k pattern_ t_).fst == (v15 k pattern_ t_).fst && (v14 k pattern_ t_).snd == (v15 k pattern_ t_).snd)) (.need [((v14 k pattern_ t_).fst == (v15 k pattern_ t_).fst && (v14 k pattern_ t_).snd == (v15 k pattern_ t_).snd) = true, CC Tryd.prog 13 (args13 ) [] (res13 (v13 k )) (bo13 (v13 k ))] (.leaf (res4 (true && v13 k)) (bo4 (true && v13 k)))) (.need [((v14 k pattern_ t_).fst == (v15 k pattern_ t_).fst && (v14 k pattern_ t_).snd == (v15 k pattern_ t_).snd) = false] (.leaf (res4 false) (bo4 false))))))) (by kernel_rfl) ?_
  refine ⟨fun c => ?_, fun c => ?_⟩
  · rw [cond_t c] at h
    by_cases q : ((f13 k ).isSome = true)
    · rw [if_pos q] at h
      refine ⟨(conjC (cc13 k  q) conj0), ?_⟩
      cases h; exact ⟨rfl, rfl⟩
    · rw [if_neg q] at h; cases h
  · rw [cond_f c] at h
    by_cases q : ((f14 k pattern_ t_).isSome = true)
    · rw [if_pos q] at h
      refine ⟨(conjC (cc14 k pattern_ t_ q) conj0), ?_⟩
      by_cases q : ((f15 k pattern_ t_).isSome = true)
      · rw [if_pos q] at h
        refine ⟨(conjC (cc15 k pattern_ t_ q) conj0), ?_⟩
        refine ⟨fun c => ?_, fun c => ?_⟩
        · rw [cond_t c] at h
          by_cases q : (((v14 k pattern_ t_).fst == (v15 k pattern_ t_).fst && (v14 k pattern_ t_).snd == (v15 k pattern_ t_).snd) = true) ∧ ((f13 k ).isSome = true)
          · rw [if_pos q] at h
            refine ⟨(conjC q.1 (conjC (cc13 k  q.2) conj0)), ?_⟩
            cases h; exact ⟨rfl, rfl⟩
          · rw [if_neg q] at h; cases h
        · rw [cond_f c] at h
          by_cases q : (((v14 k pattern_ t_).fst == (v15 k pattern_ t_).fst && (v14 k pattern_ t_).snd == (v15 k pattern_ t_).snd) = false)
          · rw [if_pos q] at h
            refine ⟨(conjC q conj0), ?_⟩
            cases h; exact ⟨rfl, rfl⟩
          · rw [if_neg q] at h; cases h
      · rw [if_neg q] at h; cases h
    · rw [if_neg q] at h; cases h
theorem cc4 (k : Nat) (pattern_ : List (I).T) (t_ : Int) (h : (f4 k pattern_ t_).isSome = true) : CC Tryd.prog 4 (args4 pattern_ t_) [] (res4 (v4 k pattern_ t_)) (bo4 (v4 k pattern_ t_)) := by
  cases e : f4 k pattern_ t_ with
  | none => rw [e] at h; cases h
  | some r => rw [show v4 k pattern_ t_ = r by simp [v4, e]]; exact of4 k pattern_ t_ r e

end
end Go.AM
namespace Go.AM
open Go Go.Proofs
set_option linter.unusedVariables false
noncomputable section
/-! ### function 17: papermill/papermillref05.Next -/
def K17 (k : Nat) : Calld := ⟨fun g => match g with
  | 28 => some [false]
  | _ => none, fun g xs _ => match g with
  | 28 => match xs with
    | [.r (.v (.int .i64 t_))] => some (res28 (v28 k t_), bo28 (v28 k t_))
    | _ => none
  | _ => none⟩
abbrev R17 : Type := Int × Int
def res17 (r : R17) : AV := .tup [.r (.v (.int .i64 r.1)), .r (.v (.int .i64 r.2))]
def bo17 (r : R17) : List (Nat × Blk) := []
def f17 (k : Nat) (t_ : Int) (shift_ : Int) : Option R17 :=
  if ((f28 k t_).isSome = true) then
    bif (!v28 k t_) then
      some ((0, 1))
    else
      bif (decide (shift_ < (0 : Int)) || decide (shift_ > (2 : Int))) then
        some ((0, 17))
      else
        if ((86400 : Int) ≠ (0 : Int)) then
          bif (decide (IntKind.i64.wrap (IntKind.i64.wrap (IntKind.i64.wrap (t_.tdiv (86400 : Int)) * (86400 : Int)) + IntKind.i64.wrap (shift_ * (28800 : Int))) < t_)) then
            bif (decide (IntKind.i64.wrap (IntKind.i64.wrap (IntKind.i64.wrap (IntKind.i64.wrap (t_.tdiv (86400 : Int)) * (86400 : Int)) + IntKind.i64.wrap (shift_ * (28800 : Int))) + (86400 : Int)) > (2147483647 : Int))) then
              some ((0, 7))
            else
              some ((IntKind.i64.wrap (IntKind.i64.wrap (IntKind.i64.wrap (IntKind.i64.wrap (t_.tdiv 86400) * 86400) + IntKind.i64.wrap (shift_ * 28800)) + 86400), 0))
          else
            bif (decide (IntKind.i64.wrap (IntKind.i64.wrap (IntKind.i64.wrap (t_.tdiv (86400 : Int)) * (86400 : Int)) + IntKind.i64.wrap (shift_ * (28800 : Int))) > (2147483647 : Int))) then
              some ((0, 7))
            else
              some ((IntKind.i64.wrap (IntKind.i64.wrap (IntKind.i64.wrap (t_.tdiv 86400) * 86400) + IntKind.i64.wrap (shift_ * 28800)), 0))
        else none
  else none
def args17 (t_ : Int) (shift_ : Int) : List AV := [.r (.v (.int .i64 t_)), .r (.v (.int .i64 shift_))]
def v17 (k : Nat) (t_ : Int) (shift_ : Int) : R17 := (f17 k t_ shift_).getD (0, 0)
theorem of17 (k : Nat) (t_ : Int) (shift_ : Int) (r : R17) (h : f17 k t_ shift_ = some r) : CC Tryd.prog 17 (args17 t_ shift_) [] (res17 r) (bo17 r) := by
  refine CC.of (fn := Tryd.f17) (by kernel_rfl) (by kernel_rfl) (by kernel_rfl) (by kernel_rfl) ?_
  unfold f17 at h
  refine Ev.tree hm (R := Rt) (K := (K17 k)) (l := []) (C := []) (E := [.auto [4, 5] true]) (n := 1000) (T := .need [CC Tryd.prog 28 (args28 t_) [] (res28 (v28 k t_)) (bo28 (v28 k t_))] (.test ((!v28 k t_)) (.leaf (res17 ((0, 1))) (bo17 ((0, 1)))) (.test ((decide (shift_ < (0 : Int)) || decide (shift_ > (2 : Int)))) (.leaf (res17 ((0, 17))) (bo17 ((0, 17)))) (.need [(86400 : Int) ≠ (0 : Int)] (.test ((decide (IntKind.i64.wrap (IntKind.i64.wrap (IntKind.i64.wrap (t_.tdiv (86400 : Int)) * (86400 : Int)) + IntKind.i64.wrap (shift_ * (28800 : Int))) < t_))) (.test ((decide (IntKind.i64.wrap (IntKind.i64.wrap (IntKind.i64.wrap (IntKind.i64.wrap (t_.tdiv (86400 : Int)) * (86400 : Int)) + IntKind.i64.wrap (shift_ * (28800 : Int))) + (86400 : Int)) > (2147483647 : Int)))) (.leaf (res17 ((0, 7))) (bo17 ((0, 7)))) (.leaf (res17 ((IntKind.i64.wrap (IntKind.i64.wrap (IntKind.i64.wrap (IntKind.i64.wrap (t_.tdiv 86400) * 86400) + IntKind.i64.wrap (shift_ * 28800)) + 86400), 0))) (bo17 ((IntKind.i64.wrap (IntKind.i64.wrap (IntKind.i64.wrap (IntKind.i64.wrap (t_.tdiv 86400) * 86400) + IntKind.i64.wrap (shift_ * 28800)) + 86400), 0))))) (.test ((decide (IntKind.i64.wrap (IntKind.i64.wrap (IntKind.i64.wrap (t_.tdiv (86400 : Int)) * (86400 : Int)) + IntKind.i64.wrap (shift_ * (28800 : Int))) > (2147483647 : Int)))) (.leaf (res17 ((0, 7))) (bo17 ((0, 7)))) (.leaf (res17 ((IntKind.i64.wrap (IntKind.i64.wrap (IntKind.i64.wrap (t_.tdiv 86400) * 86400) + IntKind.i64.wrap (shift_ * 28800)), 0))) (bo17 ((IntKind.i64.wrap (IntKind.i64.wrap (IntKind.i64.wrap (t_.tdiv 86400) * 86400) + IntKind.i64.wrap (shift_ * 28800)), 0)))))))))) (by kernel_rfl) ?_
  by_cases q : ((f28 k t_).isSome = true)
  · rw [if_pos q] at h
    refine ⟨(conjC (cc28 k t_ q) conj0), ?_⟩
    refine ⟨fun c => ?_, fun c => ?_⟩
    · rw [cond_t c] at h
      cases h; exact ⟨rfl, rfl⟩
    · rw [cond_f c] at h
      refine ⟨fun c => ?_, fun c => ?_⟩
      · rw [cond_t c] at h
        cases h; exact ⟨rfl, rfl⟩
      · rw [cond_f c] at h
        by_cases q : ((86400 : Int) ≠ (0 : Int))
        · rw [if_pos q] at h
          refine ⟨(conjC q conj0), ?_⟩
          refine ⟨fun c => ?_, fun c => ?_⟩
          · rw [cond_t c] at h
            refine ⟨fun c => ?_, fun c => ?_⟩
            · rw [cond_t c] at h
              cases h; exact ⟨rfl, rfl⟩
            · rw [cond_f c] at h
              cases h; exact ⟨rfl, rfl⟩
          · rw [cond_f c] at h
            refine ⟨fun c => ?_, fun c => ?_⟩
            · rw [cond_t c] at h
              cases h; exact ⟨rfl, rfl⟩
            · rw [cond_f c] at h
              cases h; exact ⟨rfl, rfl⟩
        · rw [if_neg q] at h; cases h
  · rw [if_neg q] at h; cases h
theorem cc17 (k : Nat) (t_ : Int) (shift_ : Int) (h : (f17 k t_ shift_).isSome = true) : CC Tryd.prog 17 (args17 t_ shift_) [] (res17 (v17 k t_ shift_)) (bo17 (v17 k t_ shift_)) := by
  cases e : f17 k t_ shift_ with
  | none => rw [e] at h; cases h
  | some r => rw [show v17 k t_ shift_ = r by simp [v17, e]]; exact of17 k t_ shift_ r e

end
end Go.AM
namespace Go.AM
open Go Go.Proofs
set_option linter.unusedVariables false
noncomputable section
/-! ### function 5: papermill/papermilllaw05.ClockNexts -/
def K5 (k : Nat) : Calld := ⟨fun g => match g with
  | 16 => some [false, false]
  | 13 => some []
  | 17 => some [false, false]
  | _ => none, fun g xs _ => match g with
  | 16 => match xs with
    | [.r (.v (.int .i64 t_)), .r (.v (.int .i64 shift_))] => some (res16 (v16 k t_ shift_), bo16 (v16 k t_ shift_))
    | _ => none
  | 13 => match xs with
    | [] => some (res13 (v13 k ), bo13 (v13 k ))
    | _ => none
  | 17 => match xs with
    | [.r (.v (.int .i64 t_)), .r (.v (.int .i64 shift_))] => some (res17 (v17 k t_ shift_), bo17 (v17 k t_ shift_))
    | _ => none
  | _ => none⟩
abbrev R5 : Type := Bool
def res5 (r : R5) : AV := .r (.v (.bool r))
def bo5 (r : R5) : List (Nat × Blk) := []
def f5 (k : Nat) (t_ : Int) (shift_ : Int) : Option R5 :=
  if ((f16 k t_ shift_).isSome = true) then
    if ((f17 k t_ shift_).isSome = true) then
      bif ((v16 k t_ shift_).fst == (v17 k t_ shift_).fst && (v16 k t_ shift_).snd == (v17 k t_ shift_).snd) then
        if (((v16 k t_ shift_).fst == (v17 k t_ shift_).fst && (v16 k t_ shift_).snd == (v17 k t_ shift_).snd) = true) ∧ ((f13 k ).isSome = true) then
          some (true && v13 k)
        else none
      else
        if (((v16 k t_ shift_).fst == (v17 k t_ shift_).fst && (v16 k t_ shift_).snd == (v17 k t_ shift_).snd) = false) then
          some false
        else none
    else none
  else none
def args5 (t_ : Int) (shift_ : Int) : List AV := [.r (.v (.int .i64 t_)), .r (.v (.int .i64 shift_))]
def v5 (k : Nat) (t_ : Int) (shift_ : Int) : R5 := (f5 k t_ shift_).getD false
theorem of5 (k : Nat) (t_ : Int) (shift_ : Int) (r : R5) (h : f5 k t_ shift_ = some r) : CC Tryd.prog 5 (args5 t_ shift_) [] (res5 r) (bo5 r) := by
  refine CC.of (fn := Tryd.f5) (by kernel_rfl) (by kernel_rfl) (by kernel_rfl) (by kernel_rfl) ?_
  unfold f5 at h
  refine Ev.tree hm (R := Rt) (K := (K5 k)) (l := []) (C := []) (E := [.auto [4] true]) (n := 1000) (T := .need [CC Tryd.prog 16 (args16 t_ shift_) [] (res16 (v16 k t_ shift_)) (bo16 (v16 k t_ shift_))] (.need [CC Tryd.prog 17 (args17 t_ shift_) [] (res17 (v17 k t_ shift_)) (bo17 (v17 k t_ shift_))] (.test (((v16 k t_ shift_).fst == (v17 k t_ shift_).fst && (v16 k t_ shift_).snd == (v17 k t_ shift_).snd)) (.need [((v16 k t_ shift_).fst == (v17 k t_ shift_).fst && (v16 k t_ shift_).snd == (v17 k t_ shift_).snd) = true, CC Tryd.prog 13 (args13 ) [] (res13 (v13 k )) (bo13 (v13 k ))] (.leaf (res5 (true && v13 k)) (bo5 (true && v13 k)))) (.need [((v16 k t_ shift_).fst == (v17 k t_ shift_).fst && (v16 k t_ shift_).snd == (v17 k t_ shift_).snd) = false] (.leaf (res5 false) (bo5 false)))))) (by kernel_rfl) ?_
  by_cases q : ((f16 k t_ shift_).isSome = true)
  · rw [if_pos q] at h
    refine ⟨(conjC (cc16 k t_ shift_ q) conj0), ?_⟩
    by_cases q : ((f17 k t_ shift_).isSome = true)
    · rw [if_pos q] at h
      refine ⟨(conjC (cc17 k t_ shift_ q) conj0), ?_⟩
      refine ⟨fun c => ?_, fun c => ?_⟩
      · rw [cond_t c] at h
        by_cases q : (((v16 k t_ shift_).fst == (v17 k t_ shift_).fst && (v16 k t_ shift_).snd == (v17 k t_ shift_).snd) = true) ∧ ((f13 k ).isSome = true)
        · rw [if_pos q] at h
          refine ⟨(conjC q.1 (conjC (cc13 k  q.2) conj0)), ?_⟩
          cases h; exact ⟨rfl, rfl⟩
        · rw [if_neg q] at h; cases h
      · rw [cond_f c] at h
        by_cases q : (((v16 k t_ shift_).fst == (v17 k t_ shift_).fst && (v16 k t_ shift_).snd == (v17 k t_ shift_).snd) = false)
        · rw [if_pos q] at h
          refine ⟨(conjC q conj0), ?_⟩
          cases h; exact ⟨rfl, rfl⟩
        · rw [if_neg q] at h; cases h
    · rw [if_neg q] at h; cases h
  · rw [if_neg q] at h; cases h
theorem cc5 (k : Nat) (t_ : Int) (shift_ : Int) (h : (f5 k t_ shift_).isSome = true) : CC Tryd.prog 5 (args5 t_ shift_) [] (res5 (v5 k t_ shift_)) (bo5 (v5 k t_ shift_)) := by
  cases e : f5 k t_ shift_ with
  | none => rw [e] at h; cases h
  | some r => rw [show v5 k t_ shift_ = r by simp [v5, e]]; exact of5 k t_ shift_ r e

end
end Go.AM
namespace Go.AM
open Go Go.Proofs
set_option linter.unusedVariables false
noncomputable section
/-! ### function 30: papermill/papermillref05.Within -/
def K30 (k : Nat) : Calld := ⟨fun g => match g with
  | _ => none, fun g xs _ => match g with
  | _ => none⟩
abbrev R30 : Type := Bool
def res30 (r : R30) : AV := .r (.v (.bool r))
def bo30 (r : R30) : List (Nat × Blk) := []
def f30 (k : Nat) (s_ : t34.T) : Option R30 :=
  some (decide (s_.fst ≥ 0) && decide (s_.fst ≤ s_.snd) && decide (s_.snd ≤ 2147483648))
def args30 (s_ : t34.T) : List AV := [.agg (rvs (enc t34 s_))]
def v30 (k : Nat) (s_ : t34.T) : R30 := (f30 k s_).getD false
theorem of30 (k : Nat) (s_ : t34.T) (r : R30) (h : f30 k s_ = some r) : CC Tryd.prog 30 (args30 s_) [] (res30 r) (bo30 r) := by
  refine CC.of (fn := Tryd.f30) (by kernel_rfl) (by kernel_rfl) (by kernel_rfl) (by kernel_rfl) ?_
  unfold f30 at h
  refine Ev.tree hm (R := Rt) (K := (K30 k)) (l := []) (C := []) (E := [.auto [2] true]) (n := 1000) (T := .leaf (res30 (decide (s_.fst ≥ 0) && decide (s_.fst ≤ s_.snd) && decide (s_.snd ≤ 2147483648))) (bo30 (decide (s_.fst ≥ 0) && decide (s_.fst ≤ s_.snd) && decide (s_.snd ≤ 2147483648)))) (by kernel_rfl) ?_
  cases h; exact ⟨rfl, rfl⟩
theorem cc30 (k : Nat) (s_ : t34.T) (h : (f30 k s_).isSome = true) : CC Tryd.prog 30 (args30 s_) [] (res30 (v30 k s_)) (bo30 (v30 k s_)) := by
  cases e : f30 k s_ with
  | none => rw [e] at h; cases h
  | some r => rw [show v30 k s_ = r by simp [v30, e]]; exact of30 k s_ r e

end
end Go.AM
namespace Go.AM
open Go Go.Proofs
set_option linter.unusedVariables false
noncomputable section
/-! ### function 19: papermill/papermillref05.Parts -/
def K19 (k : Nat) : Calld := ⟨fun g => match g with
  | 30 => some [false]
  | _ => none, fun g xs _ => match g with
  | 30 => match xs with
    | [.agg q0] => (decS [] t34 q0).bind fun s_ => some (res30 (v30 k s_), bo30 (v30 k s_))
    | _ => none
  | _ => none⟩
abbrev R19 : Type := Int × List (t34).T
def res19 (r : R19) : AV := .tup [.own 0 0, .r (.v (.int .i64 r.1))]
def bo19 (r : R19) : List (Nat × Blk) := [(0, .row 34 t34 r.2)]
def st19_7 (x0 : Int) (x1 : t34.T) (x2 : List (t34).T) : St := ⟨mkS 48 [(1, .ptr 1000000 0 0), (4, .own 1000001 0), (5, .r (.v (.int .i64 x0)))], [(1000000, 0, .var 34 (rvs (enc t34 x1))), (1000001, 0, .row 34 t34 x2)]⟩
def f19_7 (k : Nat) : Nat → Int → t34.T → List (t34).T → Option R19
  | 0, _, _, _ => none
  | j + 1, x0, x1, x2 =>
    bif (decide (x0 < x1.snd)) then
      if ((28800 : Int) ≠ (0 : Int)) then
        if ((x2.length + [(x0, if IntKind.i64.wrap (IntKind.i64.wrap (IntKind.i64.wrap (x0.tdiv (28800 : Int)) + (1 : Int)) * (28800 : Int)) < x1.snd then IntKind.i64.wrap (IntKind.i64.wrap (IntKind.i64.wrap (x0.tdiv (28800 : Int)) + (1 : Int)) * (28800 : Int)) else x1.snd)].length) * (16 : Nat) ≤ (140737488355328 : Nat)) then
          f19_7 k j ((if IntKind.i64.wrap (IntKind.i64.wrap (IntKind.i64.wrap (x0.tdiv 28800) + 1) * 28800) < x1.snd then IntKind.i64.wrap (IntKind.i64.wrap (IntKind.i64.wrap (x0.tdiv 28800) + 1) * 28800) else x1.snd)) x1 ((x2 ++ [(x0, if IntKind.i64.wrap (IntKind.i64.wrap (IntKind.i64.wrap (x0.tdiv 28800) + 1) * 28800) < x1.snd then IntKind.i64.wrap (IntKind.i64.wrap (IntKind.i64.wrap (x0.tdiv 28800) + 1) * 28800) else x1.snd)]))
        else none
      else none
    else
      some ((0, x2))
def f19 (k : Nat) (s_ : t34.T) : Option R19 :=
  if ((f30 k s_).isSome = true) then
    bif (!v30 k s_) then
      some ((1, []))
    else
      if (decide (s_.fst < s_.snd) = true → (28800 : Int) ≠ (0 : Int)) ∧ (decide (s_.fst < s_.snd) = true → (28800 : Int) ≠ (0 : Int)) then
        bif (decide (s_.fst < s_.snd) && decide (IntKind.i64.wrap (IntKind.i64.wrap (IntKind.i64.wrap ((IntKind.i64.wrap (s_.snd - (1 : Int))).tdiv (28800 : Int)) - IntKind.i64.wrap (Int.tdiv s_.fst (28800 : Int))) + (1 : Int)) > (256 : Int))) then
          some ((8, []))
        else
          f19_7 k k s_.fst s_ ([])
      else none
  else none
def args19 (s_ : t34.T) : List AV := [.agg (rvs (enc t34 s_))]
def v19 (k : Nat) (s_ : t34.T) : R19 := (f19 k s_).getD (0, [])
theorem ev19 (k : Nat) : ∀ j, (∀ (x0 : Int) (x1 : t34.T) (x2 : List (t34).T) (r : R19), f19_7 k j x0 x1 x2 = some r → Ev Tryd.prog Tryd.f19 0 (placeAt Tryd.f19 7) (st19_7 x0 x1 x2) (res19 r) (bo19 r))
  | 0 => by
    intros; rename_i h; simp [f19_7] at h
  | j + 1 => by
    have ih := ev19 k j
    · intro x0 x1 x2 r h
      rw [f19_7] at h
      refine Ev.tree hm (R := Rt) (K := (K19 k)) (l := []) (C := [(7, [.row 4 34 t34, .auto [1, 4, 5] false])]) (E := [.row 2 34 t34, .auto [2, 3] true]) (n := 1000) (T := .test ((decide (x0 < x1.snd))) (.need [(28800 : Int) ≠ (0 : Int)] (.need [(x2.length + [(x0, if IntKind.i64.wrap (IntKind.i64.wrap (IntKind.i64.wrap (x0.tdiv (28800 : Int)) + (1 : Int)) * (28800 : Int)) < x1.snd then IntKind.i64.wrap (IntKind.i64.wrap (IntKind.i64.wrap (x0.tdiv (28800 : Int)) + (1 : Int)) * (28800 : Int)) else x1.snd)].length) * (16 : Nat) ≤ (140737488355328 : Nat)] (.cut 7 (placeAt Tryd.f19 7) (st19_7 ((if IntKind.i64.wrap (IntKind.i64.wrap (IntKind.i64.wrap (x0.tdiv 28800) + 1) * 28800) < x1.snd then IntKind.i64.wrap (IntKind.i64.wrap (IntKind.i64.wrap (x0.tdiv 28800) + 1) * 28800) else x1.snd)) x1 ((x2 ++ [(x0, if IntKind.i64.wrap (IntKind.i64.wrap (IntKind.i64.wrap (x0.tdiv 28800) + 1) * 28800) < x1.snd then IntKind.i64.wrap (IntKind.i64.wrap (IntKind.i64.wrap (x0.tdiv 28800) + 1) * 28800) else x1.snd)])))))) (.leaf (res19 ((0, x2))) (bo19 ((0, x2))))) (by kernel_rfl) ?_
      refine ⟨fun c => ?_, fun c => ?_⟩
      · rw [cond_t c] at h
        by_cases q : ((28800 : Int) ≠ (0 : Int))
        · rw [if_pos q] at h
          refine ⟨(conjC q conj0), ?_⟩
          by_cases q : ((x2.length + [(x0, if IntKind.i64.wrap (IntKind.i64.wrap (IntKind.i64.wrap (x0.tdiv (28800 : Int)) + (1 : Int)) * (28800 : Int)) < x1.snd then IntKind.i64.wrap (IntKind.i64.wrap (IntKind.i64.wrap (x0.tdiv (28800 : Int)) + (1 : Int)) * (28800 : Int)) else x1.snd)].length) * (16 : Nat) ≤ (140737488355328 : Nat))
          · rw [if_pos q] at h
            refine ⟨(conjC q conj0), ?_⟩
            exact ih ((if IntKind.i64.wrap (IntKind.i64.wrap (IntKind.i64.wrap (x0.tdiv 28800) + 1) * 28800) < x1.snd then IntKind.i64.wrap (IntKind.i64.wrap (IntKind.i64.wrap (x0.tdiv 28800) + 1) * 28800) else x1.snd)) x1 ((x2 ++ [(x0, if IntKind.i64.wrap (IntKind.i64.wrap (IntKind.i64.wrap (x0.tdiv 28800) + 1) * 28800) < x1.snd then IntKind.i64.wrap (IntKind.i64.wrap (IntKind.i64.wrap (x0.tdiv 28800) + 1) * 28800) else x1.snd)])) _ h
          · rw [if_neg q] at h; cases h
        · rw [if_neg q] at h; cases h
      · rw [cond_f c] at h
        cases h; exact ⟨rfl, rfl⟩
theorem of19 (k : Nat) (s_ : t34.T) (r : R19) (h : f19 k s_ = some r) : CC Tryd.prog 19 (args19 s_) [] (res19 r) (bo19 r) := by
  refine CC.of (fn := Tryd.f19) (by kernel_rfl) (by kernel_rfl) (by kernel_rfl) (by kernel_rfl) ?_
  unfold f19 at h
  refine Ev.tree hm (R := Rt) (K := (K19 k)) (l := []) (C := [(7, [.row 4 34 t34, .auto [1, 4, 5] false])]) (E := [.row 2 34 t34, .auto [2, 3] true]) (n := 1000) (T := .need [CC Tryd.prog 30 (args30 s_) [] (res30 (v30 k s_)) (bo30 (v30 k s_))] (.test ((!v30 k s_)) (.leaf (res19 ((1, []))) (bo19 ((1, [])))) (.need [decide (s_.fst < s_.snd) = true → (28800 : Int) ≠ (0 : Int), decide (s_.fst < s_.snd) = true → (28800 : Int) ≠ (0 : Int)] (.test ((decide (s_.fst < s_.snd) && decide (IntKind.i64.wrap (IntKind.i64.wrap (IntKind.i64.wrap ((IntKind.i64.wrap (s_.snd - (1 : Int))).tdiv (28800 : Int)) - IntKind.i64.wrap (Int.tdiv s_.fst (28800 : Int))) + (1 : Int)) > (256 : Int)))) (.leaf (res19 ((8, []))) (bo19 ((8, [])))) (.cut 7 (placeAt Tryd.f19 7) (st19_7 s_.fst s_ ([]))))))) (by kernel_rfl) ?_
  by_cases q : ((f30 k s_).isSome = true)
  · rw [if_pos q] at h
    refine ⟨(conjC (cc30 k s_ q) conj0), ?_⟩
    refine ⟨fun c => ?_, fun c => ?_⟩
    · rw [cond_t c] at h
      cases h; exact ⟨rfl, rfl⟩
    · rw [cond_f c] at h
      by_cases q : (decide (s_.fst < s_.snd) = true → (28800 : Int) ≠ (0 : Int)) ∧ (decide (s_.fst < s_.snd) = true → (28800 : Int) ≠ (0 : Int))
      · rw [if_pos q] at h
        refine ⟨(conjC q.1 (conjC q.2 conj0)), ?_⟩
        refine ⟨fun c => ?_, fun c => ?_⟩
        · rw [cond_t c] at h
          cases h; exact ⟨rfl, rfl⟩
        · rw [cond_f c] at h
          exact (ev19 k k) s_.fst s_ ([]) _ h
      · rw [if_neg q] at h; cases h
  · rw [if_neg q] at h; cases h
theorem cc19 (k : Nat) (s_ : t34.T) (h : (f19 k s_).isSome = true) : CC Tryd.prog 19 (args19 s_) [] (res19 (v19 k s_)) (bo19 (v19 k s_)) := by
  cases e : f19 k s_ with
  | none => rw [e] at h; cases h
  | some r => rw [show v19 k s_ = r by simp [v19, e]]; exact of19 k s_ r e

end
end Go.AM
namespace Go.AM
open Go Go.Proofs
set_option linter.unusedVariables false
noncomputable section
/-! ### function 6: papermill/papermilllaw05.ClockParts -/
def K6 (k : Nat) : Calld := ⟨fun g => match g with
  | 18 => some [false]
  | 20 => some [false, false]
  | 13 => some []
  | 19 => some [false]
  | _ => none, fun g xs _ => match g with
  | 18 => match xs with
    | [.agg q0] => (decS [] t34 q0).bind fun s_ => some (res18 (v18 k s_), bo18 (v18 k s_))
    | _ => none
  | 20 => match xs with
    | [.r (.ro t0_ q0), .r (.ro t1_ q1)] => (castL t0_ t34 q0).bind fun a_ => (castL t1_ t34 q1).bind fun b_ => some (res20 (v20 k a_ b_), bo20 (v20 k a_ b_))
    | _ => none
  | 13 => match xs with
    | [] => some (res13 (v13 k ), bo13 (v13 k ))
    | _ => none
  | 19 => match xs with
    | [.agg q0] => (decS [] t34 q0).bind fun s_ => some (res19 (v19 k s_), bo19 (v19 k s_))
    | _ => none
  | _ => none⟩
abbrev R6 : Type := Bool
def res6 (r : R6) : AV := .r (.v (.bool r))
def bo6 (r : R6) : List (Nat × Blk) := []
def f6 (k : Nat) (s_ : t34.T) : Option R6 :=
  if ((f18 k s_).isSome = true) then
    if ((f19 k s_).isSome = true) then
      bif (v20 k (v18 k s_).snd (v19 k s_).snd && (v18 k s_).fst == (v19 k s_).fst) then
        if ((f20 k (v18 k s_).snd (v19 k s_).snd).isSome = true) ∧ ((v20 k (v18 k s_).snd (v19 k s_).snd && (v18 k s_).fst == (v19 k s_).fst) = true) ∧ ((f13 k ).isSome = true) then
          some (true && v13 k)
        else none
      else
        if ((f20 k (v18 k s_).snd (v19 k s_).snd).isSome = true) ∧ ((v20 k (v18 k s_).snd (v19 k s_).snd && (v18 k s_).fst == (v19 k s_).fst) = false) then
          some false
        else none
    else none
  else none
def args6 (s_ : t34.T) : List AV := [.agg (rvs (enc t34 s_))]
def v6 (k : Nat) (s_ : t34.T) : R6 := (f6 k s_).getD false
theorem of6 (k : Nat) (s_ : t34.T) (r : R6) (h : f6 k s_ = some r) : CC Tryd.prog 6 (args6 s_) [] (res6 r) (bo6 r) := by
  refine CC.of (fn := Tryd.f6) (by kernel_rfl) (by kernel_rfl) (by kernel_rfl) (by kernel_rfl) ?_
  unfold f6 at h
  refine Ev.tree hm (R := Rt) (K := (K6 k)) (l := []) (C := []) (E := [.auto [2] true]) (n := 1000) (T := .need [CC Tryd.prog 18 (args18 s_) [] (res18 (v18 k s_)) (bo18 (v18 k s_))] (.need [CC Tryd.prog 19 (args19 s_) [] (res19 (v19 k s_)) (bo19 (v19 k s_))] (.test ((v20 k (v18 k s_).snd (v19 k s_).snd && (v18 k s_).fst == (v19 k s_).fst)) (.need [CC Tryd.prog 20 (args20 (v18 k s_).snd (v19 k s_).snd) [] (res20 (v20 k (v18 k s_).snd (v19 k s_).snd)) (bo20 (v20 k (v18 k s_).snd (v19 k s_).snd)), (v20 k (v18 k s_).snd (v19 k s_).snd && (v18 k s_).fst == (v19 k s_).fst) = true, CC Tryd.prog 13 (args13 ) [] (res13 (v13 k )) (bo13 (v13 k ))] (.leaf (res6 (true && v13 k)) (bo6 (true && v13 k)))) (.need [CC Tryd.prog 20 (args20 (v18 k s_).snd (v19 k s_).snd) [] (res20 (v20 k (v18 k s_).snd (v19 k s_).snd)) (bo20 (v20 k (v18 k s_).snd (v19 k s_).snd)), (v20 k (v18 k s_).snd (v19 k s_).snd && (v18 k s_).fst == (v19 k s_).fst) = false] (.leaf (res6 false) (bo6 false)))))) (by kernel_rfl) ?_
  by_cases q : ((f18 k s_).isSome = true)
  · rw [if_pos q] at h
    refine ⟨(conjC (cc18 k s_ q) conj0), ?_⟩
    by_cases q : ((f19 k s_).isSome = true)
    · rw [if_pos q] at h
      refine ⟨(conjC (cc19 k s_ q) conj0), ?_⟩
      refine ⟨fun c => ?_, fun c => ?_⟩
      · rw [cond_t c] at h
        by_cases q : ((f20 k (v18 k s_).snd (v19 k s_).snd).isSome = true) ∧ ((v20 k (v18 k s_).snd (v19 k s_).snd && (v18 k s_).fst == (v19 k s_).fst) = true) ∧ ((f13 k ).isSome = true)
        · rw [if_pos q] at h
          refine ⟨(conjC (cc20 k (v18 k s_).snd (v19 k s_).snd q.1) (conjC q.2.1 (conjC (cc13 k  q.2.2) conj0))), ?_⟩
          cases h; exact ⟨rfl, rfl⟩
        · rw [if_neg q] at h; cases h
      · rw [cond_f c] at h
        by_cases q : ((f20 k (v18 k s_).snd (v19 k s_).snd).isSome = true) ∧ ((v20 k (v18 k s_).snd (v19 k s_).snd && (v18 k s_).fst == (v19 k s_).fst) = false)
        · rw [if_pos q] at h
          refine ⟨(conjC (cc20 k (v18 k s_).snd (v19 k s_).snd q.1) (conjC q.2 conj0)), ?_⟩
          cases h; exact ⟨rfl, rfl⟩
        · rw [if_neg q] at h; cases h
    · rw [if_neg q] at h; cases h
  · rw [if_neg q] at h; cases h
theorem cc6 (k : Nat) (s_ : t34.T) (h : (f6 k s_).isSome = true) : CC Tryd.prog 6 (args6 s_) [] (res6 (v6 k s_)) (bo6 (v6 k s_)) := by
  cases e : f6 k s_ with
  | none => rw [e] at h; cases h
  | some r => rw [show v6 k s_ = r by simp [v6, e]]; exact of6 k s_ r e

end
end Go.AM
namespace Go.AM
open Go Go.Proofs
set_option linter.unusedVariables false
noncomputable section
/-! ### function 31: papermill/clock.upto -/
def K31 (k : Nat) : Calld := ⟨fun g => match g with
  | _ => none, fun g xs _ => match g with
  | _ => none⟩
abbrev R31 : Type := Int
def res31 (r : R31) : AV := .r (.v (.int .i64 r))
def bo31 (r : R31) : List (Nat × Blk) := []
def f31 (k : Nat) (n_ : Int) (secs_ : Int) : Option R31 :=
  if (secs_ ≠ (0 : Int)) then
    some (IntKind.i64.wrap ((IntKind.i64.wrap (IntKind.i64.wrap (n_ + secs_) - 1)).tdiv secs_))
  else none
def args31 (n_ : Int) (secs_ : Int) : List AV := [.r (.v (.int .i64 n_)), .r (.v (.int .i64 secs_))]
def v31 (k : Nat) (n_ : Int) (secs_ : Int) : R31 := (f31 k n_ secs_).getD 0
theorem of31 (k : Nat) (n_ : Int) (secs_ : Int) (r : R31) (h : f31 k n_ secs_ = some r) : CC Tryd.prog 31 (args31 n_ secs_) [] (res31 r) (bo31 r) := by
  refine CC.of (fn := Tryd.f31) (by kernel_rfl) (by kernel_rfl) (by kernel_rfl) (by kernel_rfl) ?_
  unfold f31 at h
  refine Ev.tree hm (R := Rt) (K := (K31 k)) (l := []) (C := []) (E := [.auto [4] true]) (n := 1000) (T := .need [secs_ ≠ (0 : Int)] (.leaf (res31 (IntKind.i64.wrap ((IntKind.i64.wrap (IntKind.i64.wrap (n_ + secs_) - 1)).tdiv secs_))) (bo31 (IntKind.i64.wrap ((IntKind.i64.wrap (IntKind.i64.wrap (n_ + secs_) - 1)).tdiv secs_))))) (by kernel_rfl) ?_
  by_cases q : (secs_ ≠ (0 : Int))
  · rw [if_pos q] at h
    refine ⟨(conjC q conj0), ?_⟩
    cases h; exact ⟨rfl, rfl⟩
  · rw [if_neg q] at h; cases h
theorem cc31 (k : Nat) (n_ : Int) (secs_ : Int) (h : (f31 k n_ secs_).isSome = true) : CC Tryd.prog 31 (args31 n_ secs_) [] (res31 (v31 k n_ secs_)) (bo31 (v31 k n_ secs_)) := by
  cases e : f31 k n_ secs_ with
  | none => rw [e] at h; cases h
  | some r => rw [show v31 k n_ secs_ = r by simp [v31, e]]; exact of31 k n_ secs_ r e

end
end Go.AM
namespace Go.AM
open Go Go.Proofs
set_option linter.unusedVariables false
noncomputable section
/-! ### function 21: papermill/clock.Steps -/
def K21 (k : Nat) : Calld := ⟨fun g => match g with
  | 29 => some [false]
  | 31 => some [false, false]
  | _ => none, fun g xs _ => match g with
  | 29 => match xs with
    | [.agg q0] => (decS [] t34 q0).bind fun s_ => some (res29 (v29 k s_), bo29 (v29 k s_))
    | _ => none
  | 31 => match xs with
    | [.r (.v (.int .i64 n_)), .r (.v (.int .i64 secs_))] => some (res31 (v31 k n_ secs_), bo31 (v31 k n_ secs_))
    | _ => none
  | _ => none⟩
abbrev R21 : Type := Int × Int
def res21 (r : R21) : AV := .tup [.r (.v (.int .i64 r.1)), .r (.v (.int .i64 r.2))]
def bo21 (r : R21) : List (Nat × Blk) := []
def f21 (k : Nat) (s_ : t34.T) (secs_ : Int) : Option R21 :=
  if ((f29 k s_).isSome = true) then
    bif (!v29 k s_ || decide (secs_ < (1 : Int)) || decide (secs_ > (86400 : Int))) then
      some ((0, 1))
    else
      if ((f31 k s_.snd secs_).isSome = true) ∧ ((f31 k s_.fst secs_).isSome = true) then
        some ((IntKind.i64.wrap (v31 k s_.snd secs_ - v31 k s_.fst secs_), 0))
      else none
  else none
def args21 (s_ : t34.T) (secs_ : Int) : List AV := [.agg (rvs (enc t34 s_)), .r (.v (.int .i64 secs_))]
def v21 (k : Nat) (s_ : t34.T) (secs_ : Int) : R21 := (f21 k s_ secs_).getD (0, 0)
theorem of21 (k : Nat) (s_ : t34.T) (secs_ : Int) (r : R21) (h : f21 k s_ secs_ = some r) : CC Tryd.prog 21 (args21 s_ secs_) [] (res21 r) (bo21 r) := by
  refine CC.of (fn := Tryd.f21) (by kernel_rfl) (by kernel_rfl) (by kernel_rfl) (by kernel_rfl) ?_
  unfold f21 at h
  refine Ev.tree hm (R := Rt) (K := (K21 k)) (l := []) (C := []) (E := [.auto [4, 5] true]) (n := 1000) (T := .need [CC Tryd.prog 29 (args29 s_) [] (res29 (v29 k s_)) (bo29 (v29 k s_))] (.test ((!v29 k s_ || decide (secs_ < (1 : Int)) || decide (secs_ > (86400 : Int)))) (.leaf (res21 ((0, 1))) (bo21 ((0, 1)))) (.need [CC Tryd.prog 31 (args31 s_.snd secs_) [] (res31 (v31 k s_.snd secs_)) (bo31 (v31 k s_.snd secs_)), CC Tryd.prog 31 (args31 s_.fst secs_) [] (res31 (v31 k s_.fst secs_)) (bo31 (v31 k s_.fst secs_))] (.leaf (res21 ((IntKind.i64.wrap (v31 k s_.snd secs_ - v31 k s_.fst secs_), 0))) (bo21 ((IntKind.i64.wrap (v31 k s_.snd secs_ - v31 k s_.fst secs_), 0))))))) (by kernel_rfl) ?_
  by_cases q : ((f29 k s_).isSome = true)
  · rw [if_pos q] at h
    refine ⟨(conjC (cc29 k s_ q) conj0), ?_⟩
    refine ⟨fun c => ?_, fun c => ?_⟩
    · rw [cond_t c] at h
      cases h; exact ⟨rfl, rfl⟩
    · rw [cond_f c] at h
      by_cases q : ((f31 k s_.snd secs_).isSome = true) ∧ ((f31 k s_.fst secs_).isSome = true)
      · rw [if_pos q] at h
        refine ⟨(conjC (cc31 k s_.snd secs_ q.1) (conjC (cc31 k s_.fst secs_ q.2) conj0)), ?_⟩
        cases h; exact ⟨rfl, rfl⟩
      · rw [if_neg q] at h; cases h
  · rw [if_neg q] at h; cases h
theorem cc21 (k : Nat) (s_ : t34.T) (secs_ : Int) (h : (f21 k s_ secs_).isSome = true) : CC Tryd.prog 21 (args21 s_ secs_) [] (res21 (v21 k s_ secs_)) (bo21 (v21 k s_ secs_)) := by
  cases e : f21 k s_ secs_ with
  | none => rw [e] at h; cases h
  | some r => rw [show v21 k s_ secs_ = r by simp [v21, e]]; exact of21 k s_ secs_ r e

end
end Go.AM
namespace Go.AM
open Go Go.Proofs
set_option linter.unusedVariables false
noncomputable section
/-! ### function 32: papermill/papermillref05.up -/
def K32 (k : Nat) : Calld := ⟨fun g => match g with
  | _ => none, fun g xs _ => match g with
  | _ => none⟩
abbrev R32 : Type := Int
def res32 (r : R32) : AV := .r (.v (.int .i64 r))
def bo32 (r : R32) : List (Nat × Blk) := []
def f32 (k : Nat) (a_ : Int) (b_ : Int) : Option R32 :=
  if (b_ ≠ (0 : Int)) then
    some (IntKind.i64.wrap ((IntKind.i64.wrap (IntKind.i64.wrap (a_ + b_) - 1)).tdiv b_))
  else none
def args32 (a_ : Int) (b_ : Int) : List AV := [.r (.v (.int .i64 a_)), .r (.v (.int .i64 b_))]
def v32 (k : Nat) (a_ : Int) (b_ : Int) : R32 := (f32 k a_ b_).getD 0
theorem of32 (k : Nat) (a_ : Int) (b_ : Int) (r : R32) (h : f32 k a_ b_ = some r) : CC Tryd.prog 32 (args32 a_ b_) [] (res32 r) (bo32 r) := by
  refine CC.of (fn := Tryd.f32) (by kernel_rfl) (by kernel_rfl) (by kernel_rfl) (by kernel_rfl) ?_
  unfold f32 at h
  refine Ev.tree hm (R := Rt) (K := (K32 k)) (l := []) (C := []) (E := [.auto [4] true]) (n := 1000) (T := .need [b_ ≠ (0 : Int)] (.leaf (res32 (IntKind.i64.wrap ((IntKind.i64.wrap (IntKind.i64.wrap (a_ + b_) - 1)).tdiv b_))) (bo32 (IntKind.i64.wrap ((IntKind.i64.wrap (IntKind.i64.wrap (a_ + b_) - 1)).tdiv b_))))) (by kernel_rfl) ?_
  by_cases q : (b_ ≠ (0 : Int))
  · rw [if_pos q] at h
    refine ⟨(conjC q conj0), ?_⟩
    cases h; exact ⟨rfl, rfl⟩
  · rw [if_neg q] at h; cases h
theorem cc32 (k : Nat) (a_ : Int) (b_ : Int) (h : (f32 k a_ b_).isSome = true) : CC Tryd.prog 32 (args32 a_ b_) [] (res32 (v32 k a_ b_)) (bo32 (v32 k a_ b_)) := by
  cases e : f32 k a_ b_ with
  | none => rw [e] at h; cases h
  | some r => rw [show v32 k a_ b_ = r by simp [v32, e]]; exact of32 k a_ b_ r e

end
end Go.AM
namespace Go.AM
open Go Go.Proofs
set_option linter.unusedVariables false
noncomputable section
/-! ### function 22: papermill/papermillref05.Steps -/
def K22 (k : Nat) : Calld := ⟨fun g => match g with
  | 30 => some [false]
  | 32 => some [false, false]
  | _ => none, fun g xs _ => match g with
  | 30 => match xs with
    | [.agg q0] => (decS [] t34 q0).bind fun s_ => some (res30 (v30 k s_), bo30 (v30 k s_))
    | _ => none
  | 32 => match xs with
    | [.r (.v (.int .i64 a_)), .r (.v (.int .i64 b_))] => some (res32 (v32 k a_ b_), bo32 (v32 k a_ b_))
    | _ => none
  | _ => none⟩
abbrev R22 : Type := Int × Int
def res22 (r : R22) : AV := .tup [.r (.v (.int .i64 r.1)), .r (.v (.int .i64 r.2))]
def bo22 (r : R22) : List (Nat × Blk) := []
def f22 (k : Nat) (s_ : t34.T) (secs_ : Int) : Option R22 :=
  if ((f30 k s_).isSome = true) then
    bif (!v30 k s_ || decide (secs_ < (1 : Int)) || decide (secs_ > (86400 : Int))) then
      some ((0, 1))
    else
      if ((f32 k s_.snd secs_).isSome = true) ∧ ((f32 k s_.fst secs_).isSome = true) then
        some ((IntKind.i64.wrap (v32 k s_.snd secs_ - v32 k s_.fst secs_), 0))
      else none
  else none
def args22 (s_ : t34.T) (secs_ : Int) : List AV := [.agg (rvs (enc t34 s_)), .r (.v (.int .i64 secs_))]
def v22 (k : Nat) (s_ : t34.T) (secs_ : Int) : R22 := (f22 k s_ secs_).getD (0, 0)
theorem of22 (k : Nat) (s_ : t34.T) (secs_ : Int) (r : R22) (h : f22 k s_ secs_ = some r) : CC Tryd.prog 22 (args22 s_ secs_) [] (res22 r) (bo22 r) := by
  refine CC.of (fn := Tryd.f22) (by kernel_rfl) (by kernel_rfl) (by kernel_rfl) (by kernel_rfl) ?_
  unfold f22 at h
  refine Ev.tree hm (R := Rt) (K := (K22 k)) (l := []) (C := []) (E := [.auto [4, 5] true]) (n := 1000) (T := .need [CC Tryd.prog 30 (args30 s_) [] (res30 (v30 k s_)) (bo30 (v30 k s_))] (.test ((!v30 k s_ || decide (secs_ < (1 : Int)) || decide (secs_ > (86400 : Int)))) (.leaf (res22 ((0, 1))) (bo22 ((0, 1)))) (.need [CC Tryd.prog 32 (args32 s_.snd secs_) [] (res32 (v32 k s_.snd secs_)) (bo32 (v32 k s_.snd secs_)), CC Tryd.prog 32 (args32 s_.fst secs_) [] (res32 (v32 k s_.fst secs_)) (bo32 (v32 k s_.fst secs_))] (.leaf (res22 ((IntKind.i64.wrap (v32 k s_.snd secs_ - v32 k s_.fst secs_), 0))) (bo22 ((IntKind.i64.wrap (v32 k s_.snd secs_ - v32 k s_.fst secs_), 0))))))) (by kernel_rfl) ?_
  by_cases q : ((f30 k s_).isSome = true)
  · rw [if_pos q] at h
    refine ⟨(conjC (cc30 k s_ q) conj0), ?_⟩
    refine ⟨fun c => ?_, fun c => ?_⟩
    · rw [cond_t c] at h
      cases h; exact ⟨rfl, rfl⟩
    · rw [cond_f c] at h
      by_cases q : ((f32 k s_.snd secs_).isSome = true) ∧ ((f32 k s_.fst secs_).isSome = true)
      · rw [if_pos q] at h
        refine ⟨(conjC (cc32 k s_.snd secs_ q.1) (conjC (cc32 k s_.fst secs_ q.2) conj0)), ?_⟩
        cases h; exact ⟨rfl, rfl⟩
      · rw [if_neg q] at h; cases h
  · rw [if_neg q] at h; cases h
theorem cc22 (k : Nat) (s_ : t34.T) (secs_ : Int) (h : (f22 k s_ secs_).isSome = true) : CC Tryd.prog 22 (args22 s_ secs_) [] (res22 (v22 k s_ secs_)) (bo22 (v22 k s_ secs_)) := by
  cases e : f22 k s_ secs_ with
  | none => rw [e] at h; cases h
  | some r => rw [show v22 k s_ secs_ = r by simp [v22, e]]; exact of22 k s_ secs_ r e

end
end Go.AM
namespace Go.AM
open Go Go.Proofs
set_option linter.unusedVariables false
noncomputable section
/-! ### function 7: papermill/papermilllaw05.ClockSteps -/
def K7 (k : Nat) : Calld := ⟨fun g => match g with
  | 13 => some []
  | 21 => some [false, false]
  | 22 => some [false, false]
  | _ => none, fun g xs _ => match g with
  | 13 => match xs with
    | [] => some (res13 (v13 k ), bo13 (v13 k ))
    | _ => none
  | 21 => match xs with
    | [.agg q0, .r (.v (.int .i64 secs_))] => (decS [] t34 q0).bind fun s_ => some (res21 (v21 k s_ secs_), bo21 (v21 k s_ secs_))
    | _ => none
  | 22 => match xs with
    | [.agg q0, .r (.v (.int .i64 secs_))] => (decS [] t34 q0).bind fun s_ => some (res22 (v22 k s_ secs_), bo22 (v22 k s_ secs_))
    | _ => none
  | _ => none⟩
abbrev R7 : Type := Bool
def res7 (r : R7) : AV := .r (.v (.bool r))
def bo7 (r : R7) : List (Nat × Blk) := []
def f7 (k : Nat) (s_ : t34.T) (secs_ : Int) : Option R7 :=
  if ((f21 k s_ secs_).isSome = true) then
    if ((f22 k s_ secs_).isSome = true) then
      bif ((v21 k s_ secs_).fst == (v22 k s_ secs_).fst && (v21 k s_ secs_).snd == (v22 k s_ secs_).snd) then
        if (((v21 k s_ secs_).fst == (v22 k s_ secs_).fst && (v21 k s_ secs_).snd == (v22 k s_ secs_).snd) = true) ∧ ((f13 k ).isSome = true) then
          some (true && v13 k)
        else none
      else
        if (((v21 k s_ secs_).fst == (v22 k s_ secs_).fst && (v21 k s_ secs_).snd == (v22 k s_ secs_).snd) = false) then
          some false
        else none
    else none
  else none
def args7 (s_ : t34.T) (secs_ : Int) : List AV := [.agg (rvs (enc t34 s_)), .r (.v (.int .i64 secs_))]
def v7 (k : Nat) (s_ : t34.T) (secs_ : Int) : R7 := (f7 k s_ secs_).getD false
theorem of7 (k : Nat) (s_ : t34.T) (secs_ : Int) (r : R7) (h : f7 k s_ secs_ = some r) : CC Tryd.prog 7 (args7 s_ secs_) [] (res7 r) (bo7 r) := by
  refine CC.of (fn := Tryd.f7) (by kernel_rfl) (by kernel_rfl) (by kernel_rfl) (by kernel_rfl) ?_
  unfold f7 at h
  refine Ev.tree hm (R := Rt) (K := (K7 k)) (l := []) (C := []) (E := [.auto [4] true]) (n := 1000) (T := .need [CC Tryd.prog 21 (args21 s_ secs_) [] (res21 (v21 k s_ secs_)) (bo21 (v21 k s_ secs_))] (.need [CC Tryd.prog 22 (args22 s_ secs_) [] (res22 (v22 k s_ secs_)) (bo22 (v22 k s_ secs_))] (.test (((v21 k s_ secs_).fst == (v22 k s_ secs_).fst && (v21 k s_ secs_).snd == (v22 k s_ secs_).snd)) (.need [((v21 k s_ secs_).fst == (v22 k s_ secs_).fst && (v21 k s_ secs_).snd == (v22 k s_ secs_).snd) = true, CC Tryd.prog 13 (args13 ) [] (res13 (v13 k )) (bo13 (v13 k ))] (.leaf (res7 (true && v13 k)) (bo7 (true && v13 k)))) (.need [((v21 k s_ secs_).fst == (v22 k s_ secs_).fst && (v21 k s_ secs_).snd == (v22 k s_ secs_).snd) = false] (.leaf (res7 false) (bo7 false)))))) (by kernel_rfl) ?_
  by_cases q : ((f21 k s_ secs_).isSome = true)
  · rw [if_pos q] at h
    refine ⟨(conjC (cc21 k s_ secs_ q) conj0), ?_⟩
    by_cases q : ((f22 k s_ secs_).isSome = true)
    · rw [if_pos q] at h
      refine ⟨(conjC (cc22 k s_ secs_ q) conj0), ?_⟩
      refine ⟨fun c => ?_, fun c => ?_⟩
      · rw [cond_t c] at h
        by_cases q : (((v21 k s_ secs_).fst == (v22 k s_ secs_).fst && (v21 k s_ secs_).snd == (v22 k s_ secs_).snd) = true) ∧ ((f13 k ).isSome = true)
        · rw [if_pos q] at h
          refine ⟨(conjC q.1 (conjC (cc13 k  q.2) conj0)), ?_⟩
          cases h; exact ⟨rfl, rfl⟩
        · rw [if_neg q] at h; cases h
      · rw [cond_f c] at h
        by_cases q : (((v21 k s_ secs_).fst == (v22 k s_ secs_).fst && (v21 k s_ secs_).snd == (v22 k s_ secs_).snd) = false)
        · rw [if_pos q] at h
          refine ⟨(conjC q conj0), ?_⟩
          cases h; exact ⟨rfl, rfl⟩
        · rw [if_neg q] at h; cases h
    · rw [if_neg q] at h; cases h
  · rw [if_neg q] at h; cases h
theorem cc7 (k : Nat) (s_ : t34.T) (secs_ : Int) (h : (f7 k s_ secs_).isSome = true) : CC Tryd.prog 7 (args7 s_ secs_) [] (res7 (v7 k s_ secs_)) (bo7 (v7 k s_ secs_)) := by
  cases e : f7 k s_ secs_ with
  | none => rw [e] at h; cases h
  | some r => rw [show v7 k s_ secs_ = r by simp [v7, e]]; exact of7 k s_ secs_ r e

end
end Go.AM
namespace Go.AM
open Go Go.Proofs
set_option linter.unusedVariables false
noncomputable section
/-! ### function 8: papermill/papermilllaw05.ClockAdds -/
def K8 (k : Nat) : Calld := ⟨fun g => match g with
  | 11 => some [false]
  | 16 => some [false, false]
  | 13 => some []
  | 21 => some [false, false]
  | _ => none, fun g xs _ => match g with
  | 11 => match xs with
    | [.r (.v (.int .i64 t_))] => some (res11 (v11 k t_), bo11 (v11 k t_))
    | _ => none
  | 16 => match xs with
    | [.r (.v (.int .i64 t_)), .r (.v (.int .i64 shift_))] => some (res16 (v16 k t_ shift_), bo16 (v16 k t_ shift_))
    | _ => none
  | 13 => match xs with
    | [] => some (res13 (v13 k ), bo13 (v13 k ))
    | _ => none
  | 21 => match xs with
    | [.agg q0, .r (.v (.int .i64 secs_))] => (decS [] t34 q0).bind fun s_ => some (res21 (v21 k s_ secs_), bo21 (v21 k s_ secs_))
    | _ => none
  | _ => none⟩
abbrev R8 : Type := Bool
def res8 (r : R8) : AV := .r (.v (.bool r))
def bo8 (r : R8) : List (Nat × Blk) := []
def f8 (k : Nat) (s_ : t34.T) (at_ : Int) (secs_ : Int) (shift_ : Int) : Option R8 :=
  if ((f21 k s_ secs_).isSome = true) then
    bif ((v21 k s_ secs_).snd == (0 : Int) && decide (at_ ≥ s_.fst) && decide (at_ ≤ s_.snd)) then
      if ((f21 k (s_.fst, at_) secs_).isSome = true) then
        if ((f21 k (at_, s_.snd) secs_).isSome = true) then
          bif ((v21 k (s_.fst, at_) secs_).snd != (0 : Int) || (v21 k (at_, s_.snd) secs_).snd != (0 : Int) || IntKind.i64.wrap ((v21 k (s_.fst, at_) secs_).fst + (v21 k (at_, s_.snd) secs_).fst) != (v21 k s_ secs_).fst || decide ((v21 k s_ secs_).fst < (0 : Int))) then
            some false
          else
            if ((f16 k at_ shift_).isSome = true) then
              bif ((v16 k at_ shift_).snd != (0 : Int)) then
                bif ((v16 k at_ shift_).fst == (0 : Int)) then
                  if (((v16 k at_ shift_).fst == (0 : Int)) = true) ∧ ((f13 k ).isSome = true) then
                    some (true && v13 k)
                  else none
                else
                  if (((v16 k at_ shift_).fst == (0 : Int)) = false) then
                    some false
                  else none
              else
                if ((f11 k (v16 k at_ shift_).fst).isSome = true) then
                  bif ((v11 k (v16 k at_ shift_).fst).snd.snd == (0 : Int) && (v11 k (v16 k at_ shift_).fst).snd.fst == shift_ && (v16 k at_ shift_).fst.tmod (28800 : Int) == (0 : Int) && decide (at_ ≥ (0 : Int)) && decide ((v16 k at_ shift_).fst ≥ at_) && decide (IntKind.i64.wrap ((v16 k at_ shift_).fst - at_) < (86400 : Int))) then
                    if (((v11 k (v16 k at_ shift_).fst).snd.snd == (0 : Int) && (v11 k (v16 k at_ shift_).fst).snd.fst == shift_) = true → (28800 : Int) ≠ (0 : Int)) ∧ (((v11 k (v16 k at_ shift_).fst).snd.snd == (0 : Int) && (v11 k (v16 k at_ shift_).fst).snd.fst == shift_ && (v16 k at_ shift_).fst.tmod (28800 : Int) == (0 : Int) && decide (at_ ≥ (0 : Int)) && decide ((v16 k at_ shift_).fst ≥ at_) && decide (IntKind.i64.wrap ((v16 k at_ shift_).fst - at_) < (86400 : Int))) = true) ∧ ((f13 k ).isSome = true) then
                      some (true && v13 k)
                    else none
                  else
                    if (((v11 k (v16 k at_ shift_).fst).snd.snd == (0 : Int) && (v11 k (v16 k at_ shift_).fst).snd.fst == shift_) = true → (28800 : Int) ≠ (0 : Int)) ∧ (((v11 k (v16 k at_ shift_).fst).snd.snd == (0 : Int) && (v11 k (v16 k at_ shift_).fst).snd.fst == shift_ && (v16 k at_ shift_).fst.tmod (28800 : Int) == (0 : Int) && decide (at_ ≥ (0 : Int)) && decide ((v16 k at_ shift_).fst ≥ at_) && decide (IntKind.i64.wrap ((v16 k at_ shift_).fst - at_) < (86400 : Int))) = false) then
                      some false
                    else none
                else none
            else none
        else none
      else none
    else
      if ((f16 k at_ shift_).isSome = true) then
        bif ((v16 k at_ shift_).snd != (0 : Int)) then
          bif ((v16 k at_ shift_).fst == (0 : Int)) then
            if (((v16 k at_ shift_).fst == (0 : Int)) = true) ∧ ((f13 k ).isSome = true) then
              some (true && v13 k)
            else none
          else
            if (((v16 k at_ shift_).fst == (0 : Int)) = false) then
              some false
            else none
        else
          if ((f11 k (v16 k at_ shift_).fst).isSome = true) then
            bif ((v11 k (v16 k at_ shift_).fst).snd.snd == (0 : Int) && (v11 k (v16 k at_ shift_).fst).snd.fst == shift_ && (v16 k at_ shift_).fst.tmod (28800 : Int) == (0 : Int) && decide (at_ ≥ (0 : Int)) && decide ((v16 k at_ shift_).fst ≥ at_) && decide (IntKind.i64.wrap ((v16 k at_ shift_).fst - at_) < (86400 : Int))) then
              if (((v11 k (v16 k at_ shift_).fst).snd.snd == (0 : Int) && (v11 k (v16 k at_ shift_).fst).snd.fst == shift_) = true → (28800 : Int) ≠ (0 : Int)) ∧ (((v11 k (v16 k at_ shift_).fst).snd.snd == (0 : Int) && (v11 k (v16 k at_ shift_).fst).snd.fst == shift_ && (v16 k at_ shift_).fst.tmod (28800 : Int) == (0 : Int) && decide (at_ ≥ (0 : Int)) && decide ((v16 k at_ shift_).fst ≥ at_) && decide (IntKind.i64.wrap ((v16 k at_ shift_).fst - at_) < (86400 : Int))) = true) ∧ ((f13 k ).isSome = true) then
                some (true && v13 k)
              else none
            else
              if (((v11 k (v16 k at_ shift_).fst).snd.snd == (0 : Int) && (v11 k (v16 k at_ shift_).fst).snd.fst == shift_) = true → (28800 : Int) ≠ (0 : Int)) ∧ (((v11 k (v16 k at_ shift_).fst).snd.snd == (0 : Int) && (v11 k (v16 k at_ shift_).fst).snd.fst == shift_ && (v16 k at_ shift_).fst.tmod (28800 : Int) == (0 : Int) && decide (at_ ≥ (0 : Int)) && decide ((v16 k at_ shift_).fst ≥ at_) && decide (IntKind.i64.wrap ((v16 k at_ shift_).fst - at_) < (86400 : Int))) = false) then
                some false
              else none
          else none
      else none
  else none
def args8 (s_ : t34.T) (at_ : Int) (secs_ : Int) (shift_ : Int) : List AV := [.agg (rvs (enc t34 s_)), .r (.v (.int .i64 at_)), .r (.v (.int .i64 secs_)), .r (.v (.int .i64 shift_))]
def v8 (k : Nat) (s_ : t34.T) (at_ : Int) (secs_ : Int) (shift_ : Int) : R8 := (f8 k s_ at_ secs_ shift_).getD false
theorem of8 (k : Nat) (s_ : t34.T) (at_ : Int) (secs_ : Int) (shift_ : Int) (r : R8) (h : f8 k s_ at_ secs_ shift_ = some r) : CC Tryd.prog 8 (args8 s_ at_ secs_ shift_) [] (res8 r) (bo8 r) := by
  refine CC.of (fn := Tryd.f8) (by kernel_rfl) (by kernel_rfl) (by kernel_rfl) (by kernel_rfl) ?_
  unfold f8 at h
  refine Ev.tree hm (R := Rt) (K := (K8 k)) (l := []) (C := []) (E := [.auto [8] true]) (n := 1000) (T := .need [CC Tryd.prog 21 (args21 s_ secs_) [] (res21 (v21 k s_ secs_)) (bo21 (v21 k s_ secs_))] (.test (((v21 k s_ secs_).snd == (0 : Int) && decide (at_ ≥ s_.fst) && decide (at_ ≤ s_.snd))) (.need [CC Tryd.prog 21 (args21 (s_.fst, at_) secs_) [] (res21 (v21 k (s_.fst, at_) secs_)) (bo21 (v21 k (s_.fst, at_) secs_))] (.need [CC Tryd.prog 21 (args21 (at_, s_.snd) secs_) [] (res21 (v21 k (at_, s_.snd) secs_)) (bo21 (v21 k (at_, s_.snd) secs_))] (.test (((v21 k (s_.fst, at_) secs_).snd != (0 : Int) || (v21 k (at_, s_.snd) secs_).snd != (0 : Int) || IntKind.i64.wrap ((v21 k (s_.fst, at_) secs_).fst + (v21 k (at_, s_.snd) secs_).fst) != (v21 k s_ secs_).fst || decide ((v21 k s_ secs_).fst < (0 : Int)))) (.leaf (res8 false) (bo8 false)) (.need [CC Tryd.prog 16 (args16 at_ shift_) [] (res16 (v16 k at_ shift_)) (bo16 (v16 k at_ shift_))] (.test (((v16 k at_ shift_).snd != (0 : Int))) (.test (((v16 k at_ shift_).fst == (0 : Int))) (.need [((v16 k at_ shift_).fst == (0 : Int)) = true, CC Tryd.prog 13 (args13 ) [] (res13 (v13 k )) (bo13 (v13 k ))] (.leaf (res8 (true && v13 k)) (bo8 (true && v13 k)))) (.need [((v16 k at_ shift_).fst == (0 : Int)) = false] (.leaf (res8 false) (bo8 false)))) (.need [CC Tryd.prog 11 (args11 (v16 k at_ shift_).fst) [] (res11 (v11 k (v16 k at_ shift_).fst)) (bo11 (v11 k (v16 k at_ shift_).fst))] (.test (((v11 k (v16 k at_ shift_).fst).snd.snd == (0 : Int) && (v11 k (v16 k at_ shift_).fst).snd.fst == shift_ && (v16 k at_ shift_).fst.tmod (28800 : Int) == (0 : Int) && decide (at_ ≥ (0 : Int)) && decide ((v16 k at_ shift_).fst ≥ at_) && decide (IntKind.i64.wrap ((v16 k at_ shift_).fst - at_) < (86400 : Int)))) (.need [((v11 k (v16 k at_ shift_).fst).snd.snd == (0 : Int) && (v11 k (v16 k at_ shift_).fst).snd.fst == shift_) = true → (28800 : Int) ≠ (0 : Int), ((v11 k (v16 k at_ shift_).fst).snd.snd == (0 : Int) && (v11 k (v16 k at_ shift_).fst).snd.fst == shift_ && (v16 k at_ shift_).fst.tmod (28800 : Int) == (0 : Int) && decide (at_ ≥ (0 : Int)) && decide ((v16 k at_ shift_).fst ≥ at_) && decide (IntKind.i64.wrap ((v16 k at_ shift_).fst - at_) < (86400 : Int))) = true, CC Tryd.prog 13 (args13 ) [] (res13 (v13 k )) (bo13 (v13 k ))] (.leaf (res8 (true && v13 k)) (bo8 (true && v13 k)))) (.need [((v11 k (v16 k at_ shift_).fst).snd.snd == (0 : Int) && (v11 k (v16 k at_ shift_).fst).snd.fst == shift_) = true → (28800 : Int) ≠ (0 : Int), ((v11 k (v16 k at_ shift_).fst).snd.snd == (0 : Int) && (v11 k (v16 k at_ shift_).fst).snd.fst == shift_ && (v16 k at_ shift_).fst.tmod (28800 : Int) == (0 : Int) && decide (at_ ≥ (0 : Int)) && decide ((v16 k at_ shift_).fst ≥ at_) && decide (IntKind.i64.wrap ((v16 k at_ shift_).fst - at_) < (86400 : Int))) = false] (.leaf (res8 false) (bo8 false)))))))))) (.need [CC Tryd.prog 16 (args16 at_ shift_) [] (res16 (v16 k at_ shift_)) (bo16 (v16 k at_ shift_))] (.test (((v16 k at_ shift_).snd != (0 : Int))) (.test (((v16 k at_ shift_).fst == (0 : Int))) (.need [((v16 k at_ shift_).fst == (0 : Int)) = true, CC Tryd.prog 13 (args13 ) [] (res13 (v13 k )) (bo13 (v13 k ))] (.leaf (res8 (true && v13 k)) (bo8 (true && v13 k)))) (.need [((v16 k at_ shift_).fst == (0 : Int)) = false] (.leaf (res8 false) (bo8 false)))) (.need [CC Tryd.prog 11 (args11 (v16 k at_ shift_).fst) [] (res11 (v11 k (v16 k at_ shift_).fst)) (bo11 (v11 k (v16 k at_ shift_).fst))] (.test (((v11 k (v16 k at_ shift_).fst).snd.snd == (0 : Int) && (v11 k (v16 k at_ shift_).fst).snd.fst == shift_ && (v16 k at_ shift_).fst.tmod (28800 : Int) == (0 : Int) && decide (at_ ≥ (0 : Int)) && decide ((v16 k at_ shift_).fst ≥ at_) && decide (IntKind.i64.wrap ((v16 k at_ shift_).fst - at_) < (86400 : Int)))) (.need [((v11 k (v16 k at_ shift_).fst).snd.snd == (0 : Int) && (v11 k (v16 k at_ shift_).fst).snd.fst == shift_) = true → (28800 : Int) ≠ (0 : Int), ((v11 k (v16 k at_ shift_).fst).snd.snd == (0 : Int) && (v11 k (v16 k at_ shift_).fst).snd.fst == shift_ && (v16 k at_ shift_).fst.tmod (28800 : Int) == (0 : Int) && decide (at_ ≥ (0 : Int)) && decide ((v16 k at_ shift_).fst ≥ at_) && decide (IntKind.i64.wrap ((v16 k at_ shift_).fst - at_) < (86400 : Int))) = true, CC Tryd.prog 13 (args13 ) [] (res13 (v13 k )) (bo13 (v13 k ))] (.leaf (res8 (true && v13 k)) (bo8 (true && v13 k)))) (.need [((v11 k (v16 k at_ shift_).fst).snd.snd == (0 : Int) && (v11 k (v16 k at_ shift_).fst).snd.fst == shift_) = true → (28800 : Int) ≠ (0 : Int), ((v11 k (v16 k at_ shift_).fst).snd.snd == (0 : Int) && (v11 k (v16 k at_ shift_).fst).snd.fst == shift_ && (v16 k at_ shift_).fst.tmod (28800 : Int) == (0 : Int) && decide (at_ ≥ (0 : Int)) && decide ((v16 k at_ shift_).fst ≥ at_) && decide (IntKind.i64.wrap ((v16 k at_ shift_).fst - at_) < (86400 : Int))) = false] (.leaf (res8 false) (bo8 false))))))))) (by kernel_rfl) ?_
  by_cases q : ((f21 k s_ secs_).isSome = true)
  · rw [if_pos q] at h
    refine ⟨(conjC (cc21 k s_ secs_ q) conj0), ?_⟩
    refine ⟨fun c => ?_, fun c => ?_⟩
    · rw [cond_t c] at h
      by_cases q : ((f21 k (s_.fst, at_) secs_).isSome = true)
      · rw [if_pos q] at h
        refine ⟨(conjC (cc21 k (s_.fst, at_) secs_ q) conj0), ?_⟩
        by_cases q : ((f21 k (at_, s_.snd) secs_).isSome = true)
        · rw [if_pos q] at h
          refine ⟨(conjC (cc21 k (at_, s_.snd) secs_ q) conj0), ?_⟩
          refine ⟨fun c => ?_, fun c => ?_⟩
          · rw [cond_t c] at h
            cases h; exact ⟨rfl, rfl⟩
          · rw [cond_f c] at h
            by_cases q : ((f16 k at_ shift_).isSome = true)
            · rw [if_pos q] at h
              refine ⟨(conjC (cc16 k at_ shift_ q) conj0), ?_⟩
              refine ⟨fun c => ?_, fun c => ?_⟩
              · rw [cond_t c] at h
                refine ⟨fun c => ?_, fun c => ?_⟩
                · rw [cond_t c] at h
                  by_cases q : (((v16 k at_ shift_).fst == (0 : Int)) = true) ∧ ((f13 k ).isSome = true)
                  · rw [if_pos q] at h
                    refine ⟨(conjC q.1 (conjC (cc13 k  q.2) conj0)), ?_⟩
                    cases h; exact ⟨rfl, rfl⟩
                  · rw [if_neg q] at h; cases h
                · rw [cond_f c] at h
                  by_cases q : (((v16 k at_ shift_).fst == (0 : Int)) = false)
                  · rw [if_pos q] at h
                    refine ⟨(conjC q conj0), ?_⟩
                    cases h; exact ⟨rfl, rfl⟩
                  · rw [if_neg q] at h; cases h
              · rw [cond_f c] at h
                by_cases q : ((f11 k (v16 k at_ shift_).fst).isSome = true)
                · rw [if_pos q] at h
                  refine ⟨(conjC (cc11 k (v16 k at_ shift_).fst q) conj0), ?_⟩
                  refine ⟨fun c => ?_, fun c => ?_⟩
                  · rw [cond_t c] at h
                    by_cases q : (((v11 k (v16 k at_ shift_).fst).snd.snd == (0 : Int) && (v11 k (v16 k at_ shift_).fst).snd.fst == shift_) = true → (28800 : Int) ≠ (0 : Int)) ∧ (((v11 k (v16 k at_ shift_).fst).snd.snd == (0 : Int) && (v11 k (v16 k at_ shift_).fst).snd.fst == shift_ && (v16 k at_ shift_).fst.tmod (28800 : Int) == (0 : Int) && decide (at_ ≥ (0 : Int)) && decide ((v16 k at_ shift_).fst ≥ at_) && decide (IntKind.i64.wrap ((v16 k at_ shift_).fst - at_) < (86400 : Int))) = true) ∧ ((f13 k ).isSome = true)
                    · rw [if_pos q] at h
                      refine ⟨(conjC q.1 (conjC q.2.1 (conjC (cc13 k  q.2.2) conj0))), ?_⟩
                      cases h; exact ⟨rfl, rfl⟩
                    · rw [if_neg q] at h; cases h
                  · rw [cond_f c] at h
                    by_cases q : (((v11 k (v16 k at_ shift_).fst).snd.snd == (0 : Int) && (v11 k (v16 k at_ shift_).fst).snd.fst == shift_) = true → (28800 : Int) ≠ (0 : Int)) ∧ (((v11 k (v16 k at_ shift_).fst).snd.snd == (0 : Int) && (v11 k (v16 k at_ shift_).fst).snd.fst == shift_ && (v16 k at_ shift_).fst.tmod (28800 : Int) == (0 : Int) && decide (at_ ≥ (0 : Int)) && decide ((v16 k at_ shift_).fst ≥ at_) && decide (IntKind.i64.wrap ((v16 k at_ shift_).fst - at_) < (86400 : Int))) = false)
                    · rw [if_pos q] at h
                      refine ⟨(conjC q.1 (conjC q.2 conj0)), ?_⟩
                      cases h; exact ⟨rfl, rfl⟩
                    · rw [if_neg q] at h; cases h
                · rw [if_neg q] at h; cases h
            · rw [if_neg q] at h; cases h
        · rw [if_neg q] at h; cases h
      · rw [if_neg q] at h; cases h
    · rw [cond_f c] at h
      by_cases q : ((f16 k at_ shift_).isSome = true)
      · rw [if_pos q] at h
        refine ⟨(conjC (cc16 k at_ shift_ q) conj0), ?_⟩
        refine ⟨fun c => ?_, fun c => ?_⟩
        · rw [cond_t c] at h
          refine ⟨fun c => ?_, fun c => ?_⟩
          · rw [cond_t c] at h
            by_cases q : (((v16 k at_ shift_).fst == (0 : Int)) = true) ∧ ((f13 k ).isSome = true)
            · rw [if_pos q] at h
              refine ⟨(conjC q.1 (conjC (cc13 k  q.2) conj0)), ?_⟩
              cases h; exact ⟨rfl, rfl⟩
            · rw [if_neg q] at h; cases h
          · rw [cond_f c] at h
            by_cases q : (((v16 k at_ shift_).fst == (0 : Int)) = false)
            · rw [if_pos q] at h
              refine ⟨(conjC q conj0), ?_⟩
              cases h; exact ⟨rfl, rfl⟩
            · rw [if_neg q] at h; cases h
        · rw [cond_f c] at h
          by_cases q : ((f11 k (v16 k at_ shift_).fst).isSome = true)
          · rw [if_pos q] at h
            refine ⟨(conjC (cc11 k (v16 k at_ shift_).fst q) conj0), ?_⟩
            refine ⟨fun c => ?_, fun c => ?_⟩
            · rw [cond_t c] at h
              by_cases q : (((v11 k (v16 k at_ shift_).fst).snd.snd == (0 : Int) && (v11 k (v16 k at_ shift_).fst).snd.fst == shift_) = true → (28800 : Int) ≠ (0 : Int)) ∧ (((v11 k (v16 k at_ shift_).fst).snd.snd == (0 : Int) && (v11 k (v16 k at_ shift_).fst).snd.fst == shift_ && (v16 k at_ shift_).fst.tmod (28800 : Int) == (0 : Int) && decide (at_ ≥ (0 : Int)) && decide ((v16 k at_ shift_).fst ≥ at_) && decide (IntKind.i64.wrap ((v16 k at_ shift_).fst - at_) < (86400 : Int))) = true) ∧ ((f13 k ).isSome = true)
              · rw [if_pos q] at h
                refine ⟨(conjC q.1 (conjC q.2.1 (conjC (cc13 k  q.2.2) conj0))), ?_⟩
                cases h; exact ⟨rfl, rfl⟩
              · rw [if_neg q] at h; cases h
            · rw [cond_f c] at h
              by_cases q : (((v11 k (v16 k at_ shift_).fst).snd.snd == (0 : Int) && (v11 k (v16 k at_ shift_).fst).snd.fst == shift_) = true → (28800 : Int) ≠ (0 : Int)) ∧ (((v11 k (v16 k at_ shift_).fst).snd.snd == (0 : Int) && (v11 k (v16 k at_ shift_).fst).snd.fst == shift_ && (v16 k at_ shift_).fst.tmod (28800 : Int) == (0 : Int) && decide (at_ ≥ (0 : Int)) && decide ((v16 k at_ shift_).fst ≥ at_) && decide (IntKind.i64.wrap ((v16 k at_ shift_).fst - at_) < (86400 : Int))) = false)
              · rw [if_pos q] at h
                refine ⟨(conjC q.1 (conjC q.2 conj0)), ?_⟩
                cases h; exact ⟨rfl, rfl⟩
              · rw [if_neg q] at h; cases h
          · rw [if_neg q] at h; cases h
      · rw [if_neg q] at h; cases h
  · rw [if_neg q] at h; cases h
theorem cc8 (k : Nat) (s_ : t34.T) (at_ : Int) (secs_ : Int) (shift_ : Int) (h : (f8 k s_ at_ secs_ shift_).isSome = true) : CC Tryd.prog 8 (args8 s_ at_ secs_ shift_) [] (res8 (v8 k s_ at_ secs_ shift_)) (bo8 (v8 k s_ at_ secs_ shift_)) := by
  cases e : f8 k s_ at_ secs_ shift_ with
  | none => rw [e] at h; cases h
  | some r => rw [show v8 k s_ at_ secs_ shift_ = r by simp [v8, e]]; exact of8 k s_ at_ secs_ shift_ r e

end
end Go.AM
namespace Go.AM
open Go

/-! ### plain laws of the clock -/
abbrev KK : Nat := 600
theorem awake05 : f13 KK = some true := by kernel_rfl
theorem vawake05 : v13 KK = true := by unfold v13; rw [awake05]; rfl
theorem td {x n : Int} (h : 0 ≤ x) : x.tdiv n = x / n := Int.tdiv_eq_ediv_of_nonneg h
theorem tm {x n : Int} (h : 0 ≤ x) : x.tmod n = x % n := Int.tmod_eq_emod_of_nonneg h

def mom (t : Int) : Bool := decide (t ≥ 0) && decide (t ≤ 2147483647)
theorem f27_s (t : Int) : f27 KK t = some (mom t) := rfl
theorem v27_s (t : Int) : v27 KK t = mom t := rfl
theorem f28_s (t : Int) : f28 KK t = some (mom t) := rfl
theorem v28_s (t : Int) : v28 KK t = mom t := rfl
theorem if_some {α β : Type} (x : α) (a b : β) : (if (some x).isSome = true then a else b) = a := rfl
theorem mom_iff (t : Int) : mom t = true ↔ 0 ≤ t ∧ t ≤ 2147483647 := by simp [mom]

def shiftS (t : Int) : Int × Int × Int := if mom t = true then (t / 86400, t % 86400 / 28800, 0) else (0, 0, 1)
theorem f11_s (t : Int) : f11 KK t = some (shiftS t) := by
  unfold f11
  rw [f27_s, if_some, v27_s]
  unfold shiftS
  by_cases h : mom t = true
  · obtain ⟨h0, h1⟩ := (mom_iff t).1 h
    rw [h, Bool.not_true, cond_false, if_pos ⟨by decide, by decide, by decide⟩, if_pos (show true = true from rfl), td h0, tm h0, td (by omega), wrap_id (by omega) (by omega), wrap_id (by omega) (by omega)]
  · have : mom t = false := by simpa using h
    rw [this]; rfl
theorem f12_s (t : Int) : f12 KK t = some (shiftS t) := (show f12 KK t = f11 KK t from rfl).trans (f11_s t)

theorem f3_j (t : Int) : f3 KK t = some true := by
  unfold f3 v11 v12
  rw [f11_s, f12_s, awake05, vawake05]
  simp

/-! Crew -/
def okC (c : Int) : Bool := decide (0 ≤ c) && decide (c ≤ 15)
def crewT (p : List Int) (t : Int) : Int × Int := if mom t = true then (p.getD (t / 28800 % p.length).toNat 0, 0) else (0, 1)
theorem f14_loop (p : List Int) (t : Int) (hp : 0 < p.length) (hl : p.length ≤ 64) : ∀ (d j i : Nat), i + d = p.length → d < j → f14_6 KK j p t p (p.length : Int) (i : Int) = some (if (p.drop i).all okC = true then crewT p t else (0, 1)) := by
  intro d
  induction d with
  | zero =>
    intro j i h hj
    obtain ⟨j, rfl⟩ := fuel1 hj
    rw [f14_6, decide_eq_false (by omega), cond_false, f27_s, if_some, v27_s, drop_all p i (by omega)]
    unfold crewT
    by_cases hm : mom t = true
    · obtain ⟨h0, h1⟩ := (mom_iff t).1 hm
      have hq : 0 ≤ t / 28800 := by omega
      rw [hm, Bool.not_true, cond_false, td h0, wrap_id (by omega) (by omega), tm hq, if_pos ⟨by decide, by omega, Int.emod_nonneg _ (by omega), Int.emod_lt_of_pos _ (by omega)⟩]
      rfl
    · have : mom t = false := by simpa using hm
      rw [this]; rfl
  | succ d ih =>
    intro j i h hj
    obtain ⟨j, rfl⟩ := fuel1 hj
    have hi : i < p.length := by omega
    rw [f14_6, decide_eq_true (by omega), cond_true, if_pos ⟨by omega, by omega⟩, drop_cons' p i I.dflt hi, wrapS i (by omega), ih j (i + 1) (by omega) (by omega), List.all_cons]
    simp only [Int.toNat_natCast]
    have e : (decide (p.getD i I.dflt < (0 : Int)) || decide (p.getD i I.dflt ≥ (16 : Int))) = !okC (p.getD i I.dflt) := by
      have : ∀ c : Int, (decide (c < (0 : Int)) || decide (c ≥ (16 : Int))) = !okC c := fun c => by
        unfold okC
        by_cases h1 : 0 ≤ c <;> by_cases h2 : c ≤ 15 <;> simp [h1, h2] <;> omega
      exact this _
    rw [e]
    cases okC (p.getD i I.dflt) <;> rfl
theorem f15_loop (p : List Int) (t : Int) (hp : 0 < p.length) (hl : p.length ≤ 64) : ∀ (d j i : Nat), i + d = p.length → d < j → f15_6 KK j p t (i : Int) = some (if (p.drop i).all okC = true then crewT p t else (0, 1)) := by
  intro d
  induction d with
  | zero =>
    intro j i h hj
    obtain ⟨j, rfl⟩ := fuel1 hj
    rw [f15_6, decide_eq_false (by omega), cond_false, f28_s, if_some, v28_s, drop_all p i (by omega)]
    unfold crewT
    by_cases hm : mom t = true
    · obtain ⟨h0, h1⟩ := (mom_iff t).1 hm
      have hq : 0 ≤ t / 28800 := by omega
      rw [hm, Bool.not_true, cond_false, td h0, wrap_id (by omega) (by omega), tm hq, if_pos ⟨by decide, by omega, Int.emod_nonneg _ (by omega), Int.emod_lt_of_pos _ (by omega)⟩]
      rfl
    · have : mom t = false := by simpa using hm
      rw [this]; rfl
  | succ d ih =>
    intro j i h hj
    obtain ⟨j, rfl⟩ := fuel1 hj
    have hi : i < p.length := by omega
    have p1 : (0 : Int) ≤ (i : Int) := by omega
    have p2 : (i : Int) < (p.length : Int) := by omega
    rw [f15_6, decide_eq_true p2, cond_true, if_pos ⟨p1, p2, fun _ => p1, fun _ => p2⟩, drop_cons' p i I.dflt hi, wrapS i (by omega), ih j (i + 1) (by omega) (by omega), List.all_cons]
    simp only [Int.toNat_natCast]
    have e : (decide (p.getD i I.dflt < (0 : Int)) || decide (p.getD i I.dflt > (15 : Int))) = !okC (p.getD i I.dflt) := by
      have : ∀ c : Int, (decide (c < (0 : Int)) || decide (c > (15 : Int))) = !okC c := fun c => by
        unfold okC
        by_cases h1 : 0 ≤ c <;> by_cases h2 : c ≤ 15 <;> simp [h1, h2] <;> omega
      exact this _
    rw [e]
    cases okC (p.getD i I.dflt) <;> rfl
def crewS (p : List Int) (t : Int) : Int × Int := if p.length = 0 then (0, 10) else if p.length > 64 then (0, 8) else if p.all okC = true then crewT p t else (0, 1)
theorem f14_s (p : List Int) (t : Int) : f14 KK p t = some (crewS p t) := by
  unfold f14 crewS
  by_cases h0 : p.length = 0
  · simp [h0]
  · rw [beqf (show ¬ (p.length : Int) = 0 by omega), cond_false, if_neg h0]
    by_cases h1 : p.length > 64
    · rw [decide_eq_true (by omega), cond_true, if_pos h1]
    · rw [decide_eq_false (by omega), cond_false, if_neg h1]
      exact f14_loop p t (by omega) (by omega) p.length KK 0 (by omega) (show p.length < 600 by omega)
theorem f15_s (p : List Int) (t : Int) : f15 KK p t = some (crewS p t) := by
  unfold f15 crewS
  by_cases h0 : p.length = 0
  · simp [h0]
  · rw [beqf (show ¬ (p.length : Int) = 0 by omega), cond_false, if_neg h0]
    by_cases h1 : p.length > 64
    · rw [decide_eq_true (by omega), cond_true, if_pos h1]
    · rw [decide_eq_false (by omega), cond_false, if_neg h1]
      exact f15_loop p t (by omega) (by omega) p.length KK 0 (by omega) (show p.length < 600 by omega)
theorem f4_j (p : List Int) (t : Int) : f4 KK p t = some true := by
  unfold f4 v14 v15
  rw [f14_s, f15_s, awake05, vawake05]
  cases decide ((p.length : Int) > (200 : Int)) <;> simp

/-! Next -/
def nextN (t sh : Int) : Int := if t / 86400 * 86400 + sh * 28800 < t then t / 86400 * 86400 + sh * 28800 + 86400 else t / 86400 * 86400 + sh * 28800
def nextS (t sh : Int) : Int × Int := if mom t = true then (if 0 ≤ sh ∧ sh ≤ 2 then (if nextN t sh ≤ 2147483647 then (nextN t sh, 0) else (0, 7)) else (0, 17)) else (0, 1)
theorem f16_s (t sh : Int) : f16 KK t sh = some (nextS t sh) := by
  unfold f16 nextS
  rw [f27_s, if_some, v27_s]
  by_cases hm : mom t = true
  · obtain ⟨h0, h1⟩ := (mom_iff t).1 hm
    rw [hm, Bool.not_true, cond_false, if_pos (show true = true from rfl)]
    by_cases hs : 0 ≤ sh ∧ sh ≤ 2
    · rw [show (decide (sh < (0 : Int)) || decide (sh ≥ (3 : Int))) = false by simp; omega, cond_false, if_pos (by decide), if_pos hs, td h0, wrap_id (i := t / 86400) (by omega) (by omega), wrap_id (i := t / 86400 * 86400) (by omega) (by omega), wrap_id (i := sh * 28800) (by omega) (by omega), wrap_id (i := t / 86400 * 86400 + sh * 28800) (by omega) (by omega)]
      unfold nextN
      by_cases hn : t / 86400 * 86400 + sh * 28800 < t
      · rw [decide_eq_true hn, cond_true, f27_s, if_some, if_pos hn, wrap_id (i := t / 86400 * 86400 + sh * 28800 + 86400) (by omega) (by omega), v27_s]
        by_cases hx : t / 86400 * 86400 + sh * 28800 + 86400 ≤ 2147483647
        · rw [(mom_iff _).2 ⟨by omega, hx⟩, if_pos hx]; rfl
        · rw [show mom (t / 86400 * 86400 + sh * 28800 + 86400) = false by simp [mom]; omega, if_neg hx]; rfl
      · rw [decide_eq_false hn, cond_false, f27_s, if_some, if_neg hn, v27_s]
        by_cases hx : t / 86400 * 86400 + sh * 28800 ≤ 2147483647
        · rw [(mom_iff _).2 ⟨by omega, hx⟩, if_pos hx]; rfl
        · rw [show mom (t / 86400 * 86400 + sh * 28800) = false by simp [mom]; omega, if_neg hx]; rfl
    · rw [show (decide (sh < (0 : Int)) || decide (sh ≥ (3 : Int))) = true by simp; omega, cond_true, if_neg hs]
  · have : mom t = false := by simpa using hm
    rw [this]; rfl
theorem f17_s (t sh : Int) : f17 KK t sh = some (nextS t sh) := by
  unfold f17 nextS
  rw [f28_s, if_some, v28_s]
  by_cases hm : mom t = true
  · obtain ⟨h0, h1⟩ := (mom_iff t).1 hm
    rw [hm, Bool.not_true, cond_false, if_pos (show true = true from rfl)]
    by_cases hs : 0 ≤ sh ∧ sh ≤ 2
    · rw [show (decide (sh < (0 : Int)) || decide (sh > (2 : Int))) = false by simp; omega, cond_false, if_pos (by decide), if_pos hs, td h0, wrap_id (i := t / 86400) (by omega) (by omega), wrap_id (i := t / 86400 * 86400) (by omega) (by omega), wrap_id (i := sh * 28800) (by omega) (by omega), wrap_id (i := t / 86400 * 86400 + sh * 28800) (by omega) (by omega)]
      unfold nextN
      by_cases hn : t / 86400 * 86400 + sh * 28800 < t
      · rw [decide_eq_true hn, cond_true, if_pos hn, wrap_id (i := t / 86400 * 86400 + sh * 28800 + 86400) (by omega) (by omega)]
        by_cases hx : t / 86400 * 86400 + sh * 28800 + 86400 ≤ 2147483647
        · rw [decide_eq_false (by omega), if_pos hx]; rfl
        · rw [decide_eq_true (by omega), if_neg hx]; rfl
      · rw [decide_eq_false hn, cond_false, if_neg hn]
        by_cases hx : t / 86400 * 86400 + sh * 28800 ≤ 2147483647
        · rw [decide_eq_false (by omega), if_pos hx]; rfl
        · rw [decide_eq_true (by omega), if_neg hx]; rfl
    · rw [show (decide (sh < (0 : Int)) || decide (sh > (2 : Int))) = true by simp; omega, cond_true, if_neg hs]
  · have : mom t = false := by simpa using hm
    rw [this]; rfl
theorem f5_j (t sh : Int) : f5 KK t sh = some true := by
  unfold f5 v16 v17
  rw [f16_s, f17_s, awake05, vawake05]
  simp

/-! Steps -/
def wthn (a b : Int) : Bool := decide (a ≥ 0) && decide (a ≤ b) && decide (b ≤ 2147483648)
theorem f29_s (a b : Int) : f29 KK (a, b) = some (wthn a b) := rfl
theorem v29_s (a b : Int) : v29 KK (a, b) = wthn a b := rfl
def upS (n s : Int) : Int := (n + s - 1) / s
def stepsS (a b s : Int) : Int × Int := if wthn a b = true ∧ 1 ≤ s ∧ s ≤ 86400 then (upS b s - upS a s, 0) else (0, 1)
theorem upS_bounds {n s : Int} (h0 : 0 ≤ n) (h1 : n ≤ 2147483648) (hs : 1 ≤ s) (hs2 : s ≤ 86400) : 0 ≤ upS n s ∧ upS n s ≤ 2147570048 :=
  ⟨Int.ediv_nonneg (by omega) (by omega), Int.le_trans (Int.ediv_le_self _ (by omega)) (by omega)⟩
theorem f31_s {n s : Int} (h0 : 0 ≤ n) (h1 : n ≤ 2147483648) (hs : 1 ≤ s) (hs2 : s ≤ 86400) : f31 KK n s = some (upS n s) := by
  have hb := upS_bounds h0 h1 hs hs2
  unfold f31
  rw [if_pos (by omega), wrap_id (i := n + s) (by omega) (by omega), wrap_id (i := n + s - 1) (by omega) (by omega), td (by omega)]
  unfold upS at hb ⊢
  rw [wrap_id (by omega) (by omega)]
theorem f21_s (a b s : Int) : f21 KK (a, b) s = some (stepsS a b s) := by
  unfold f21 stepsS
  rw [f29_s, if_some, v29_s]
  by_cases h : wthn a b = true ∧ 1 ≤ s ∧ s ≤ 86400
  · obtain ⟨hw, h1, h2⟩ := h
    have hw' : 0 ≤ a ∧ a ≤ b ∧ b ≤ 2147483648 := by simpa [wthn, and_assoc] using hw
    have ea := f31_s (n := a) (s := s) (by omega) (by omega) h1 h2
    have eb := f31_s (n := b) (s := s) (by omega) (by omega) h1 h2
    have ba := upS_bounds (n := a) (s := s) (by omega) (by omega) h1 h2
    have bb := upS_bounds (n := b) (s := s) (by omega) (by omega) h1 h2
    have eR : (if wthn a b = true ∧ 1 ≤ s ∧ s ≤ 86400 then (upS b s - upS a s, (0 : Int)) else (0, 1)) = (upS b s - upS a s, 0) := if_pos ⟨hw, h1, h2⟩
    rw [eR, hw, show (!true || decide (s < (1 : Int)) || decide (s > (86400 : Int))) = false by simp; omega, cond_false]
    simp only [v31, ea, eb, Option.isSome_some, and_self, if_true, Option.getD_some]
    rw [wrap_id (by omega) (by omega)]
  · rw [if_neg h, show (!wthn a b || decide (s < (1 : Int)) || decide (s > (86400 : Int))) = true by
      cases hw : wthn a b
      · simp
      · simp only [hw, true_and] at h
        simp; omega, cond_true]
theorem f22_s (a b s : Int) : f22 KK (a, b) s = some (stepsS a b s) := (show f22 KK (a, b) s = f21 KK (a, b) s from rfl).trans (f21_s a b s)
theorem f7_j (a b s : Int) : f7 KK (a, b) s = some true := by
  unfold f7 v21 v22
  rw [f21_s, f22_s, awake05, vawake05]
  simp

/-! Adds -/
theorem upS_mono {a b s : Int} (h : a ≤ b) (hs : 1 ≤ s) : upS a s ≤ upS b s := Int.ediv_le_ediv (by omega) (by omega)
theorem next_law (t sh : Int) : ((nextS t sh).snd ≠ 0 → (nextS t sh).fst = 0) ∧ ((nextS t sh).snd = 0 → 0 ≤ t ∧ t ≤ (nextS t sh).fst ∧ (nextS t sh).fst - t < 86400 ∧ (nextS t sh).fst % 28800 = 0 ∧ (shiftS (nextS t sh).fst).snd = (sh, 0)) := by
  unfold nextS
  by_cases hm : mom t = true
  · obtain ⟨h0, h1⟩ := (mom_iff t).1 hm
    rw [if_pos hm]
    by_cases hs : 0 ≤ sh ∧ sh ≤ 2
    · rw [if_pos hs]
      by_cases hx : nextN t sh ≤ 2147483647
      · rw [if_pos hx]
        refine ⟨fun h => absurd rfl h, fun _ => ?_⟩
        simp only
        have hn : t ≤ nextN t sh ∧ nextN t sh - t < 86400 ∧ nextN t sh % 28800 = 0 ∧ nextN t sh % 86400 / 28800 = sh := by
          unfold nextN
          split <;> omega
        have : mom (nextN t sh) = true := (mom_iff _).2 ⟨by omega, hx⟩
        exact ⟨h0, hn.1, hn.2.1, hn.2.2.1, by simp [shiftS, this, hn.2.2.2]⟩
      · rw [if_neg hx]; exact ⟨fun _ => rfl, fun h => by simp at h⟩
    · rw [if_neg hs]; exact ⟨fun _ => rfl, fun h => by simp at h⟩
  · rw [if_neg hm]; exact ⟨fun _ => rfl, fun h => by simp at h⟩

theorem f8_j (a b at' secs sh : Int) : f8 KK (a, b) at' secs sh = some true := by
  obtain ⟨n1, n2⟩ := next_law at' sh
  have tail : (if ((f16 KK at' sh).isSome = true) then
        bif ((v16 KK at' sh).snd != (0 : Int)) then
          bif ((v16 KK at' sh).fst == (0 : Int)) then
            if (((v16 KK at' sh).fst == (0 : Int)) = true) ∧ ((f13 KK ).isSome = true) then
              some (true && v13 KK)
            else none
          else
            if (((v16 KK at' sh).fst == (0 : Int)) = false) then
              some false
            else none
        else
          if ((f11 KK (v16 KK at' sh).fst).isSome = true) then
            bif ((v11 KK (v16 KK at' sh).fst).snd.snd == (0 : Int) && (v11 KK (v16 KK at' sh).fst).snd.fst == sh && (v16 KK at' sh).fst.tmod (28800 : Int) == (0 : Int) && decide (at' ≥ (0 : Int)) && decide ((v16 KK at' sh).fst ≥ at') && decide (IntKind.i64.wrap ((v16 KK at' sh).fst - at') < (86400 : Int))) then
              if (((v11 KK (v16 KK at' sh).fst).snd.snd == (0 : Int) && (v11 KK (v16 KK at' sh).fst).snd.fst == sh) = true → (28800 : Int) ≠ (0 : Int)) ∧ (((v11 KK (v16 KK at' sh).fst).snd.snd == (0 : Int) && (v11 KK (v16 KK at' sh).fst).snd.fst == sh && (v16 KK at' sh).fst.tmod (28800 : Int) == (0 : Int) && decide (at' ≥ (0 : Int)) && decide ((v16 KK at' sh).fst ≥ at') && decide (IntKind.i64.wrap ((v16 KK at' sh).fst - at') < (86400 : Int))) = true) ∧ ((f13 KK ).isSome = true) then
                some (true && v13 KK)
              else none
            else
              if (((v11 KK (v16 KK at' sh).fst).snd.snd == (0 : Int) && (v11 KK (v16 KK at' sh).fst).snd.fst == sh) = true → (28800 : Int) ≠ (0 : Int)) ∧ (((v11 KK (v16 KK at' sh).fst).snd.snd == (0 : Int) && (v11 KK (v16 KK at' sh).fst).snd.fst == sh && (v16 KK at' sh).fst.tmod (28800 : Int) == (0 : Int) && decide (at' ≥ (0 : Int)) && decide ((v16 KK at' sh).fst ≥ at') && decide (IntKind.i64.wrap ((v16 KK at' sh).fst - at') < (86400 : Int))) = false) then
                some false
              else none
          else none
      else none) = some true := by
    have e16 : v16 KK at' sh = nextS at' sh := by unfold v16; rw [f16_s]; rfl
    have e11 : ∀ t, v11 KK t = shiftS t := fun t => by unfold v11; rw [f11_s]; rfl
    simp only [f16_s, f11_s, e16, e11, awake05, vawake05, if_some]
    by_cases h : (nextS at' sh).snd = 0
    · obtain ⟨q0, q1, q2, q3, q4⟩ := n2 h
      have e : ((shiftS (nextS at' sh).fst).snd.snd == (0 : Int) && (shiftS (nextS at' sh).fst).snd.fst == sh && (nextS at' sh).fst.tmod (28800 : Int) == (0 : Int) && decide (at' ≥ (0 : Int)) && decide ((nextS at' sh).fst ≥ at') && decide (IntKind.i64.wrap ((nextS at' sh).fst - at') < (86400 : Int))) = true := by
        rw [q4, tm (by omega), q3, wrap_id (by omega) (by omega)]
        simp [q0, q1]
        omega
      rw [h]
      simp only [e]
      simp
    · have := n1 h
      simp [bne, beqf h, this]
  unfold f8
  have e21 : ∀ x y s, v21 KK (x, y) s = stepsS x y s := fun x y s => by unfold v21; rw [f21_s]; rfl
  rw [f21_s, if_some, e21]
  cases hc : ((stepsS a b secs).snd == (0 : Int) && decide (at' ≥ a) && decide (at' ≤ b))
  · rw [cond_false]; exact tail
  · rw [cond_true, f21_s, f21_s, if_some, if_some, e21, e21]
    simp only [Bool.and_eq_true, beq_iff_eq, decide_eq_true_eq] at hc
    obtain ⟨⟨h1, h2⟩, h3⟩ := hc
    have hw : wthn a b = true ∧ 1 ≤ secs ∧ secs ≤ 86400 := by
      by_cases hw : wthn a b = true ∧ 1 ≤ secs ∧ secs ≤ 86400
      · exact hw
      · simp [stepsS, hw] at h1
    obtain ⟨hw, s1, s2⟩ := hw
    have hw' : 0 ≤ a ∧ a ≤ b ∧ b ≤ 2147483648 := by simpa [wthn, and_assoc] using hw
    have w1 : wthn a at' = true := by simp [wthn]; omega
    have w2 : wthn at' b = true := by simp [wthn]; omega
    have ba := upS_bounds (n := a) (s := secs) (by omega) (by omega) s1 s2
    have bb := upS_bounds (n := b) (s := secs) (by omega) (by omega) s1 s2
    have bt := upS_bounds (n := at') (s := secs) (by omega) (by omega) s1 s2
    have mo := upS_mono (a := a) (b := b) (s := secs) (by omega) s1
    have e : ((stepsS a at' secs).snd != (0 : Int) || (stepsS at' b secs).snd != (0 : Int) || IntKind.i64.wrap ((stepsS a at' secs).fst + (stepsS at' b secs).fst) != (stepsS a b secs).fst || decide ((stepsS a b secs).fst < (0 : Int))) = false := by
      simp only [stepsS, hw, w1, w2, s1, s2, and_self, if_true]
      rw [wrap_id (by omega) (by omega)]
      simp [bne]
      omega
    rw [e, cond_false]
    exact tail
end Go.AM
namespace Go.AM
open Go

/-! ### Parts -/
def partE (x b : Int) : Int := if (x / 28800 + 1) * 28800 < b then (x / 28800 + 1) * 28800 else b
def pS : Nat → Int → Int → List (Int × Int)
  | 0, _, _ => []
  | n + 1, x, b => if x < b then (x, partE x b) :: pS n (partE x b) b else []
theorem partE_w {x b : Int} (h0 : 0 ≤ x) (h1 : x < b) (h2 : b ≤ 2147483648) : (if IntKind.i64.wrap (IntKind.i64.wrap (IntKind.i64.wrap (x.tdiv (28800 : Int)) + (1 : Int)) * (28800 : Int)) < b then IntKind.i64.wrap (IntKind.i64.wrap (IntKind.i64.wrap (x.tdiv (28800 : Int)) + (1 : Int)) * (28800 : Int)) else b) = partE x b := by
  rw [td h0, wrap_id (i := x / 28800) (by omega) (by omega), wrap_id (i := x / 28800 + 1) (by omega) (by omega), wrap_id (i := (x / 28800 + 1) * 28800) (by omega) (by omega)]
  rfl
theorem partE_lt {x b : Int} (h1 : x < b) : x < partE x b ∧ partE x b ≤ b := by
  unfold partE; split <;> omega
theorem partE_m {x b : Int} (n : Nat) (h0 : 0 ≤ x) (h1 : x < b) (hn : (b - 1) / 28800 - x / 28800 < (n : Int) + 1) : partE x b < b → (b - 1) / 28800 - partE x b / 28800 < (n : Int) := by
  unfold partE; split <;> omega

theorem f18_loop (a b : Int) (hb : b ≤ 2147483648) : ∀ (n j : Nat) (x : Int) (acc : List (Int × Int)), 0 ≤ x → (x < b → (b - 1) / 28800 - x / 28800 < n) → n < j → acc.length + n ≤ 1000 →
    f18_7 KK j x (a, b) acc = some (0, acc ++ pS n x b) := by
  intro n
  induction n with
  | zero =>
    intro j x acc h0 h1 hj ha
    obtain ⟨j, rfl⟩ := fuel1 hj
    have : ¬ x < b := fun h => by have := h1 h; omega
    rw [f18_7, decide_eq_false this, cond_false, pS, List.append_nil]
  | succ n ih =>
    intro j x acc h0 h1 hj ha
    obtain ⟨j, rfl⟩ := fuel1 hj
    by_cases h : x < b
    · have hp := partE_lt h
      rw [f18_7, decide_eq_true h, cond_true, if_pos (by decide)]
      simp only [partE_w h0 h hb]
      rw [if_pos (by simp; omega), ih j _ _ (by omega) (partE_m n h0 h (by have := h1 h; omega)) (by omega) (by simp; omega), pS, if_pos h, List.append_assoc]
      rfl
    · rw [f18_7, decide_eq_false h, cond_false, pS, if_neg h, List.append_nil]
theorem f19_eq (a b : Int) : ∀ (j : Nat) (x : Int) (acc : List (Int × Int)), f19_7 KK j x (a, b) acc = f18_7 KK j x (a, b) acc := by
  intro j
  induction j with
  | zero => intro x acc; rfl
  | succ j ih =>
    intro x acc
    rw [f18_7, f19_7]
    simp only [ih]

def partsS (a b : Int) : Int × List (Int × Int) := if wthn a b = true then (if a < b ∧ (b - 1) / 28800 - a / 28800 ≥ 256 then (8, []) else (0, pS 300 a b)) else (1, [])
theorem f18_s (a b : Int) : f18 KK (a, b) = some (partsS a b) := by
  unfold f18 partsS
  rw [f29_s, if_some, v29_s]
  cases hw : wthn a b
  · rfl
  · have hw' : 0 ≤ a ∧ a ≤ b ∧ b ≤ 2147483648 := by simpa [wthn, and_assoc] using hw
    rw [Bool.not_true, cond_false, if_pos ⟨fun _ => by decide, fun _ => by decide⟩]
    by_cases h : a < b
    · simp only [h, decide_true, Bool.true_and, true_and, if_true]
      rw [wrap_id (i := b - 1) (by omega) (by omega), td (by omega), td (by omega), wrap_id (i := (b - 1) / 28800) (by omega) (by omega), wrap_id (i := a / 28800) (by omega) (by omega), wrap_id (i := (b - 1) / 28800 - a / 28800) (by omega) (by omega)]
      by_cases h2 : (b - 1) / 28800 - a / 28800 ≥ 256
      · rw [decide_eq_true h2, cond_true, if_pos h2]
      · rw [decide_eq_false h2, cond_false, if_neg h2]
        exact f18_loop a b (by omega) 300 KK a [] (by omega) (fun _ => by omega) (by decide) (by simp)
    · simp only [h, decide_false, Bool.false_and, cond_false, false_and, if_false, if_true]
      exact f18_loop a b (by omega) 300 KK a [] (by omega) (fun h2 => absurd h2 h) (by decide) (by simp)
theorem f19_s (a b : Int) : f19 KK (a, b) = some (partsS a b) := by
  unfold f19 partsS
  rw [show f30 KK (a, b) = some (wthn a b) from rfl, if_some, show v30 KK (a, b) = wthn a b from rfl]
  cases hw : wthn a b
  · rfl
  · have hw' : 0 ≤ a ∧ a ≤ b ∧ b ≤ 2147483648 := by simpa [wthn, and_assoc] using hw
    rw [Bool.not_true, cond_false, if_pos ⟨fun _ => by decide, fun _ => by decide⟩]
    by_cases h : a < b
    · simp only [h, decide_true, Bool.true_and, true_and, if_true]
      rw [wrap_id (i := b - 1) (by omega) (by omega), td (by omega), td (by omega), wrap_id (i := (b - 1) / 28800) (by omega) (by omega), wrap_id (i := a / 28800) (by omega) (by omega), wrap_id (i := (b - 1) / 28800 - a / 28800) (by omega) (by omega), wrap_id (i := (b - 1) / 28800 - a / 28800 + 1) (by omega) (by omega)]
      by_cases h2 : (b - 1) / 28800 - a / 28800 ≥ 256
      · rw [decide_eq_true (by omega), cond_true, if_pos h2]
      · rw [decide_eq_false (by omega), cond_false, if_neg h2, f19_eq]
        exact f18_loop a b (by omega) 300 KK a [] (by omega) (fun _ => by omega) (by decide) (by simp)
    · simp only [h, decide_false, Bool.false_and, cond_false, false_and, if_false, if_true]
      rw [f19_eq]
      exact f18_loop a b (by omega) 300 KK a [] (by omega) (fun h2 => absurd h2 h) (by decide) (by simp)

theorem pS_len (b : Int) : ∀ (n : Nat) (x : Int), (pS n x b).length ≤ n
  | 0, _ => by simp [pS]
  | n + 1, x => by
    rw [pS]
    split
    · have := pS_len b n (partE x b); simp; omega
    · simp
theorem f20_loop (a : List (Int × Int)) (ha : a.length ≤ 300) : ∀ (d j i : Nat), i + d = a.length → d < j → f20_4 KK j a a (i : Int) = some true := by
  intro d
  induction d with
  | zero =>
    intro j i h hj
    obtain ⟨j, rfl⟩ := fuel1 hj
    rw [f20_4, decide_eq_false (by omega), cond_false]
  | succ d ih =>
    intro j i h hj
    obtain ⟨j, rfl⟩ := fuel1 hj
    rw [f20_4, decide_eq_true (by omega), cond_true, if_pos ⟨by omega, by omega, by omega, by omega⟩, wrapS i (by omega), ih j (i + 1) (by omega) (by omega)]
    have : ∀ p : Int × Int, eqT t34 p p = true := fun p => by simp [eqT]
    rw [this]; rfl
theorem f20_s (a : List (Int × Int)) (ha : a.length ≤ 300) : f20 KK a a = some true := by
  unfold f20
  rw [show ((a.length : Int) != (a.length : Int)) = false by simp [bne], cond_false]
  exact f20_loop a ha a.length KK 0 (by omega) (show a.length < 600 by omega)
theorem partsS_len (a b : Int) : (partsS a b).snd.length ≤ 300 := by
  unfold partsS
  split
  · split
    · simp
    · exact pS_len b 300 a
  · simp
theorem f6_aux (r : Int × List (Int × Int)) (x : Option Bool) (hx : x = some true) : (if (some r).isSome = true then (if (some r).isSome = true then (bif x.getD false && r.fst == r.fst then
      (if x.isSome = true ∧ (x.getD false && r.fst == r.fst) = true ∧ (some true).isSome = true then some (true && true) else none) else (if x.isSome = true ∧ (x.getD false && r.fst == r.fst) = false then some false else none)) else none) else none) = some true := by
  subst hx
  simp
theorem f6_j (a b : Int) : f6 KK (a, b) = some true := by
  unfold f6 v18 v19 v20
  rw [f18_s, f19_s, awake05, vawake05]
  exact f6_aux (partsS a b) _ (f20_s _ (partsS_len a b))
end Go.AM
