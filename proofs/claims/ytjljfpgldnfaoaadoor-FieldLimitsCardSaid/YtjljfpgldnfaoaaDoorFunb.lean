/- Contracts of the functions that the law reaches, and the plain law. -/
import Derived.Test.YtjljfpgldnfaoaaDoorFuna
namespace Go.AM
open Go Go.Proofs
set_option linter.unusedVariables false
noncomputable section
/-! ### function 21: papermill/papermillref07.SameAll -/
def K21 (k : Nat) : Calld := ⟨fun g => match g with
  | 18 => some [false, false]
  | _ => none, fun g xs _ => match g with
  | 18 => match xs with
    | [.r (.ro t0_ q0), .r (.ro t1_ q1)] => (castL t0_ RTy.str q0).bind fun a_ => (castL t1_ RTy.str q1).bind fun b_ => some (res18 (v18 k a_ b_), bo18 (v18 k a_ b_))
    | _ => none
  | _ => none⟩
abbrev R21 : Type := Bool
def res21 (r : R21) : AV := .r (.v (.bool r))
def bo21 (r : R21) : List (Nat × Blk) := []
def st21_4 (x0 : List (RTy.str.list).T) (x1 : List (RTy.str.list).T) (x2 : Int) : St := ⟨mkS 27 [(0, .r (.ro RTy.str.list x0)), (1, .r (.ro RTy.str.list x1)), (5, .r (.v (.int .i64 x2)))], []⟩
def f21_4 (k : Nat) : Nat → List (RTy.str.list).T → List (RTy.str.list).T → Int → Option R21
  | 0, _, _, _ => none
  | j + 1, x0, x1, x2 =>
    bif (decide (x2 < (↑x0.length : Int))) then
      if ((0 : Int) ≤ x2) ∧ (x2 < (↑x0.length : Int)) ∧ ((0 : Int) ≤ x2) ∧ (x2 < (↑x1.length : Int)) ∧ ((f18 k (x0.getD x2.toNat RTy.str.list.dflt) (x1.getD x2.toNat RTy.str.list.dflt)).isSome = true) then
        bif (!v18 k (x0.getD x2.toNat RTy.str.list.dflt) (x1.getD x2.toNat RTy.str.list.dflt)) then
          some false
        else
          f21_4 k j x0 x1 ((IntKind.i64.wrap (x2 + 1)))
      else none
    else
      some true
def f21 (k : Nat) (a_ : List (RTy.list RTy.str).T) (b_ : List (RTy.list RTy.str).T) : Option R21 :=
  bif ((↑a_.length : Int) != (↑b_.length : Int)) then
    some false
  else
    f21_4 k k a_ b_ 0
def args21 (a_ : List (RTy.list RTy.str).T) (b_ : List (RTy.list RTy.str).T) : List AV := [.r (.ro (RTy.list RTy.str) a_), .r (.ro (RTy.list RTy.str) b_)]
def v21 (k : Nat) (a_ : List (RTy.list RTy.str).T) (b_ : List (RTy.list RTy.str).T) : R21 := (f21 k a_ b_).getD false
theorem ev21 (k : Nat) : ∀ j, (∀ (x0 : List (RTy.str.list).T) (x1 : List (RTy.str.list).T) (x2 : Int) (r : R21), f21_4 k j x0 x1 x2 = some r → Ev Tryd.prog Tryd.f21 0 (placeAt Tryd.f21 4) (st21_4 x0 x1 x2) (res21 r) (bo21 r))
  | 0 => by
    intros; rename_i h; simp [f21_4] at h
  | j + 1 => by
    have ih := ev21 k j
    · intro x0 x1 x2 r h
      rw [f21_4] at h
      refine Ev.tree hm (R := Rt) (K := (K21 k)) (l := []) (C := [(4, [.auto [0, 1, 5] false])]) (E := [.auto [4] true]) (n := 1000) (T := .test ((decide (x2 < (↑x0.length : Int)))) (.need [(0 : Int) ≤ x2, x2 < (↑x0.length : Int), (0 : Int) ≤ x2, x2 < (↑x1.length : Int), CC Tryd.prog 18 (args18 (x0.getD x2.toNat RTy.str.list.dflt) (x1.getD x2.toNat RTy.str.list.dflt)) [] (res18 (v18 k (x0.getD x2.toNat RTy.str.list.dflt) (x1.getD x2.toNat RTy.str.list.dflt))) (bo18 (v18 k (x0.getD x2.toNat RTy.str.list.dflt) (x1.getD x2.toNat RTy.str.list.dflt)))] (.test ((!v18 k (x0.getD x2.toNat RTy.str.list.dflt) (x1.getD x2.toNat RTy.str.list.dflt))) (.leaf (res21 false) (bo21 false)) (.cut 4 (placeAt Tryd.f21 4) (st21_4 x0 x1 ((IntKind.i64.wrap (x2 + 1))))))) (.leaf (res21 true) (bo21 true))) (by kernel_rfl) ?_
      refine ⟨fun c => ?_, fun c => ?_⟩
      · rw [cond_t c] at h
        by_cases q : ((0 : Int) ≤ x2) ∧ (x2 < (↑x0.length : Int)) ∧ ((0 : Int) ≤ x2) ∧ (x2 < (↑x1.length : Int)) ∧ ((f18 k (x0.getD x2.toNat RTy.str.list.dflt) (x1.getD x2.toNat RTy.str.list.dflt)).isSome = true)
        · rw [if_pos q] at h
          refine ⟨(conjC q.1 (conjC q.2.1 (conjC q.2.2.1 (conjC q.2.2.2.1 (conjC (cc18 k (x0.getD x2.toNat RTy.str.list.dflt) (x1.getD x2.toNat RTy.str.list.dflt) q.2.2.2.2) conj0))))), ?_⟩
          refine ⟨fun c => ?_, fun c => ?_⟩
          · rw [cond_t c] at h
            cases h; exact ⟨rfl, rfl⟩
          · rw [cond_f c] at h
            exact ih x0 x1 ((IntKind.i64.wrap (x2 + 1))) _ h
        · rw [if_neg q] at h; cases h
      · rw [cond_f c] at h
        cases h; exact ⟨rfl, rfl⟩
theorem of21 (k : Nat) (a_ : List (RTy.list RTy.str).T) (b_ : List (RTy.list RTy.str).T) (r : R21) (h : f21 k a_ b_ = some r) : CC Tryd.prog 21 (args21 a_ b_) [] (res21 r) (bo21 r) := by
  refine CC.of (fn := Tryd.f21) (by kernel_rfl) (by kernel_rfl) (by kernel_rfl) (by kernel_rfl) ?_
  unfold f21 at h
  refine Ev.tree hm (R := Rt) (K := (K21 k)) (l := []) (C := [(4, [.auto [0, 1, 5] false])]) (E := [.auto [4] true]) (n := 1000) (T := .test (((↑a_.length : Int) != (↑b_.length : Int))) (.leaf (res21 false) (bo21 false)) (.cut 4 (placeAt Tryd.f21 4) (st21_4 a_ b_ 0))) (by kernel_rfl) ?_
  refine ⟨fun c => ?_, fun c => ?_⟩
  · rw [cond_t c] at h
    cases h; exact ⟨rfl, rfl⟩
  · rw [cond_f c] at h
    exact (ev21 k k) a_ b_ 0 _ h
theorem cc21 (k : Nat) (a_ : List (RTy.list RTy.str).T) (b_ : List (RTy.list RTy.str).T) (h : (f21 k a_ b_).isSome = true) : CC Tryd.prog 21 (args21 a_ b_) [] (res21 (v21 k a_ b_)) (bo21 (v21 k a_ b_)) := by
  cases e : f21 k a_ b_ with
  | none => rw [e] at h; cases h
  | some r => rw [show v21 k a_ b_ = r by simp [v21, e]]; exact of21 k a_ b_ r e

end
end Go.AM
namespace Go.AM
open Go Go.Proofs
set_option linter.unusedVariables false
noncomputable section
/-! ### function 52: internal/stringslite.CutPrefix -/
def K52 (k : Nat) : Calld := ⟨fun g => match g with
  | 40 => some [false, false]
  | _ => none, fun g xs _ => match g with
  | 40 => match xs with
    | [.r (.v (.string s_)), .r (.v (.string prefix_))] => some (res40 (v40 k s_ prefix_), bo40 (v40 k s_ prefix_))
    | _ => none
  | _ => none⟩
abbrev R52 : Type := ByteArray × Bool
def res52 (r : R52) : AV := .tup [.r (.v (.string r.1)), .r (.v (.bool r.2))]
def bo52 (r : R52) : List (Nat × Blk) := []
def f52 (k : Nat) (s_ : ByteArray) (prefix_ : ByteArray) : Option R52 :=
  if ((f40 k s_ prefix_).isSome = true) then
    bif (!v40 k s_ prefix_) then
      some ((s_, false))
    else
      if ((0 : Int) ≤ (↑prefix_.size : Int)) ∧ ((↑prefix_.size : Int) ≤ (↑s_.size : Int)) ∧ ((↑s_.size : Int) ≤ (↑s_.size : Int)) then
        some ((s_.extract (↑prefix_.size : Int).toNat (↑s_.size : Int).toNat, true))
      else none
  else none
def args52 (s_ : ByteArray) (prefix_ : ByteArray) : List AV := [.r (.v (.string s_)), .r (.v (.string prefix_))]
def v52 (k : Nat) (s_ : ByteArray) (prefix_ : ByteArray) : R52 := (f52 k s_ prefix_).getD (ByteArray.empty, false)
theorem of52 (k : Nat) (s_ : ByteArray) (prefix_ : ByteArray) (r : R52) (h : f52 k s_ prefix_ = some r) : CC Tryd.prog 52 (args52 s_ prefix_) [] (res52 r) (bo52 r) := by
  refine CC.of (fn := Tryd.f52) (by kernel_rfl) (by kernel_rfl) (by kernel_rfl) (by kernel_rfl) ?_
  unfold f52 at h
  refine Ev.tree hm (R := Rt) (K := (K52 k)) (l := []) (C := []) (E := [.auto [4, 5] true]) (n := 1000) (T := .need [CC Tryd.prog 40 (args40 s_ prefix_) [] (res40 (v40 k s_ prefix_)) (bo40 (v40 k s_ prefix_))] (.test ((!v40 k s_ prefix_)) (.leaf (res52 ((s_, false))) (bo52 ((s_, false)))) (.need [(0 : Int) ≤ (↑prefix_.size : Int), (↑prefix_.size : Int) ≤ (↑s_.size : Int), (↑s_.size : Int) ≤ (↑s_.size : Int)] (.leaf (res52 ((s_.extract (↑prefix_.size : Int).toNat (↑s_.size : Int).toNat, true))) (bo52 ((s_.extract (↑prefix_.size : Int).toNat (↑s_.size : Int).toNat, true))))))) (by kernel_rfl) ?_
  by_cases q : ((f40 k s_ prefix_).isSome = true)
  · rw [if_pos q] at h
    refine ⟨(conjC (cc40 k s_ prefix_ q) conj0), ?_⟩
    refine ⟨fun c => ?_, fun c => ?_⟩
    · rw [cond_t c] at h
      cases h; exact ⟨rfl, rfl⟩
    · rw [cond_f c] at h
      by_cases q : ((0 : Int) ≤ (↑prefix_.size : Int)) ∧ ((↑prefix_.size : Int) ≤ (↑s_.size : Int)) ∧ ((↑s_.size : Int) ≤ (↑s_.size : Int))
      · rw [if_pos q] at h
        refine ⟨(conjC q.1 (conjC q.2.1 (conjC q.2.2 conj0))), ?_⟩
        cases h; exact ⟨rfl, rfl⟩
      · rw [if_neg q] at h; cases h
  · rw [if_neg q] at h; cases h
theorem cc52 (k : Nat) (s_ : ByteArray) (prefix_ : ByteArray) (h : (f52 k s_ prefix_).isSome = true) : CC Tryd.prog 52 (args52 s_ prefix_) [] (res52 (v52 k s_ prefix_)) (bo52 (v52 k s_ prefix_)) := by
  cases e : f52 k s_ prefix_ with
  | none => rw [e] at h; cases h
  | some r => rw [show v52 k s_ prefix_ = r by simp [v52, e]]; exact of52 k s_ prefix_ r e

end
end Go.AM
namespace Go.AM
open Go Go.Proofs
set_option linter.unusedVariables false
noncomputable section
/-! ### function 37: strings.CutPrefix -/
def K37 (k : Nat) : Calld := ⟨fun g => match g with
  | 52 => some [false, false]
  | _ => none, fun g xs _ => match g with
  | 52 => match xs with
    | [.r (.v (.string s_)), .r (.v (.string prefix_))] => some (res52 (v52 k s_ prefix_), bo52 (v52 k s_ prefix_))
    | _ => none
  | _ => none⟩
abbrev R37 : Type := ByteArray × Bool
def res37 (r : R37) : AV := .tup [.r (.v (.string r.1)), .r (.v (.bool r.2))]
def bo37 (r : R37) : List (Nat × Blk) := []
def f37 (k : Nat) (s_ : ByteArray) (prefix_ : ByteArray) : Option R37 :=
  if ((f52 k s_ prefix_).isSome = true) then
    some (((v52 k s_ prefix_).fst, (v52 k s_ prefix_).snd))
  else none
def args37 (s_ : ByteArray) (prefix_ : ByteArray) : List AV := [.r (.v (.string s_)), .r (.v (.string prefix_))]
def v37 (k : Nat) (s_ : ByteArray) (prefix_ : ByteArray) : R37 := (f37 k s_ prefix_).getD (ByteArray.empty, false)
theorem of37 (k : Nat) (s_ : ByteArray) (prefix_ : ByteArray) (r : R37) (h : f37 k s_ prefix_ = some r) : CC Tryd.prog 37 (args37 s_ prefix_) [] (res37 r) (bo37 r) := by
  refine CC.of (fn := Tryd.f37) (by kernel_rfl) (by kernel_rfl) (by kernel_rfl) (by kernel_rfl) ?_
  unfold f37 at h
  refine Ev.tree hm (R := Rt) (K := (K37 k)) (l := []) (C := []) (E := [.auto [4, 5] true]) (n := 1000) (T := .need [CC Tryd.prog 52 (args52 s_ prefix_) [] (res52 (v52 k s_ prefix_)) (bo52 (v52 k s_ prefix_))] (.leaf (res37 (((v52 k s_ prefix_).fst, (v52 k s_ prefix_).snd))) (bo37 (((v52 k s_ prefix_).fst, (v52 k s_ prefix_).snd))))) (by kernel_rfl) ?_
  by_cases q : ((f52 k s_ prefix_).isSome = true)
  · rw [if_pos q] at h
    refine ⟨(conjC (cc52 k s_ prefix_ q) conj0), ?_⟩
    cases h; exact ⟨rfl, rfl⟩
  · rw [if_neg q] at h; cases h
theorem cc37 (k : Nat) (s_ : ByteArray) (prefix_ : ByteArray) (h : (f37 k s_ prefix_).isSome = true) : CC Tryd.prog 37 (args37 s_ prefix_) [] (res37 (v37 k s_ prefix_)) (bo37 (v37 k s_ prefix_)) := by
  cases e : f37 k s_ prefix_ with
  | none => rw [e] at h; cases h
  | some r => rw [show v37 k s_ prefix_ = r by simp [v37, e]]; exact of37 k s_ prefix_ r e

end
end Go.AM
namespace Go.AM
open Go Go.Proofs
set_option linter.unusedVariables false
noncomputable section
/-! ### function 22: papermill/field.Number -/
def K22 (k : Nat) : Calld := ⟨fun g => match g with
  | 37 => some [false, false]
  | _ => none, fun g xs _ => match g with
  | 37 => match xs with
    | [.r (.v (.string s_)), .r (.v (.string prefix_))] => some (res37 (v37 k s_ prefix_), bo37 (v37 k s_ prefix_))
    | _ => none
  | _ => none⟩
abbrev R22 : Type := Int × Int
def res22 (r : R22) : AV := .tup [.r (.v (.int .i64 r.1)), .r (.v (.int .i64 r.2))]
def bo22 (r : R22) : List (Nat × Blk) := []
def st22_6 (x0 : ByteArray) (x1 : Bool) (x2 : Int) (x3 : Bool) (x4 : Int) (x5 : Int) : St := ⟨mkS 54 [(4, .r (.v (.string x0))), (5, .r (.v (.bool x1))), (6, .r (.v (.int .i64 x2))), (7, .r (.v (.bool x3))), (27, .r (.v (.int .i64 x4))), (28, .r (.v (.int .i64 x5)))], []⟩
def f22_6 (k : Nat) : Nat → ByteArray → Bool → Int → Bool → Int → Int → Option R22
  | 0, _, _, _, _, _, _ => none
  | j + 1, x0, x1, x2, x3, x4, x5 =>
    bif (decide (x5 < x4)) then
      if ((0 : Int) ≤ x5) ∧ (x5 < (↑x0.size : Int)) then
        bif (decide (bAt x0 x5 < (48 : Int)) || decide (bAt x0 x5 > (57 : Int))) then
          some ((0, 3))
        else
          bif (decide (IntKind.i64.wrap (IntKind.i64.wrap ((10 : Int) * x2) + IntKind.i64.wrap (IntKind.u8.wrap (bAt x0 x5 - (48 : Int)))) > (1000000000000 : Int))) then
            f22_6 k j x0 x1 0 true x4 ((IntKind.i64.wrap (x5 + 1)))
          else
            f22_6 k j x0 x1 ((IntKind.i64.wrap (IntKind.i64.wrap (10 * x2) + IntKind.i64.wrap (IntKind.u8.wrap (bAt x0 x5 - 48))))) x3 x4 ((IntKind.i64.wrap (x5 + 1)))
      else none
    else
      bif x3 then
        some ((0, 1))
      else
        bif x1 then
          some ((IntKind.i64.wrap (0 - x2), 0))
        else
          some ((x2, 0))
def f22 (k : Nat) (s_ : ByteArray) : Option R22 :=
  if ((f37 k s_ (ByteArray.mk #[45])).isSome = true) then
    if (((v37 k s_ (ByteArray.mk #[(45 : UInt8)])).fst.toList == (ByteArray.mk #[]).toList) = false → (0 : Int) ≤ (0 : Int)) ∧ (((v37 k s_ (ByteArray.mk #[(45 : UInt8)])).fst.toList == (ByteArray.mk #[]).toList) = false → (0 : Int) < (↑ (v37 k s_ (ByteArray.mk #[(45 : UInt8)])).fst.size : Int)) then
      bif ((v37 k s_ (ByteArray.mk #[(45 : UInt8)])).fst.toList == (ByteArray.mk #[]).toList || bAt (v37 k s_ (ByteArray.mk #[(45 : UInt8)])).fst (0 : Int) == (48 : Int) && (!s_.toList == (ByteArray.mk #[(48 : UInt8)]).toList)) then
        some ((0, 3))
      else
        f22_6 k k ((v37 k s_ (ByteArray.mk #[45])).fst) ((v37 k s_ (ByteArray.mk #[45])).snd) 0 false ((↑ (v37 k s_ (ByteArray.mk #[45])).fst.size : Int)) 0
    else none
  else none
def args22 (s_ : ByteArray) : List AV := [.r (.v (.string s_))]
def v22 (k : Nat) (s_ : ByteArray) : R22 := (f22 k s_).getD (0, 0)
theorem ev22 (k : Nat) : ∀ j, (∀ (x0 : ByteArray) (x1 : Bool) (x2 : Int) (x3 : Bool) (x4 : Int) (x5 : Int) (r : R22), f22_6 k j x0 x1 x2 x3 x4 x5 = some r → Ev Tryd.prog Tryd.f22 0 (placeAt Tryd.f22 6) (st22_6 x0 x1 x2 x3 x4 x5) (res22 r) (bo22 r))
  | 0 => by
    intros; rename_i h; simp [f22_6] at h
  | j + 1 => by
    have ih := ev22 k j
    · intro x0 x1 x2 x3 x4 x5 r h
      rw [f22_6] at h
      refine Ev.tree hm (R := Rt) (K := (K22 k)) (l := []) (C := [(6, [.auto [4, 5, 6, 7, 27, 28] false])]) (E := [.auto [2, 3] true]) (n := 1000) (T := .test ((decide (x5 < x4))) (.need [(0 : Int) ≤ x5, x5 < (↑x0.size : Int)] (.test ((decide (bAt x0 x5 < (48 : Int)) || decide (bAt x0 x5 > (57 : Int)))) (.leaf (res22 ((0, 3))) (bo22 ((0, 3)))) (.test ((decide (IntKind.i64.wrap (IntKind.i64.wrap ((10 : Int) * x2) + IntKind.i64.wrap (IntKind.u8.wrap (bAt x0 x5 - (48 : Int)))) > (1000000000000 : Int)))) (.cut 6 (placeAt Tryd.f22 6) (st22_6 x0 x1 0 true x4 ((IntKind.i64.wrap (x5 + 1))))) (.cut 6 (placeAt Tryd.f22 6) (st22_6 x0 x1 ((IntKind.i64.wrap (IntKind.i64.wrap (10 * x2) + IntKind.i64.wrap (IntKind.u8.wrap (bAt x0 x5 - 48))))) x3 x4 ((IntKind.i64.wrap (x5 + 1)))))))) (.test (x3) (.leaf (res22 ((0, 1))) (bo22 ((0, 1)))) (.test (x1) (.leaf (res22 ((IntKind.i64.wrap (0 - x2), 0))) (bo22 ((IntKind.i64.wrap (0 - x2), 0)))) (.leaf (res22 ((x2, 0))) (bo22 ((x2, 0))))))) (by kernel_rfl) ?_
      refine ⟨fun c => ?_, fun c => ?_⟩
      · rw [cond_t c] at h
        by_cases q : ((0 : Int) ≤ x5) ∧ (x5 < (↑x0.size : Int))
        · rw [if_pos q] at h
          refine ⟨(conjC q.1 (conjC q.2 conj0)), ?_⟩
          refine ⟨fun c => ?_, fun c => ?_⟩
          · rw [cond_t c] at h
            cases h; exact ⟨rfl, rfl⟩
          · rw [cond_f c] at h
            refine ⟨fun c => ?_, fun c => ?_⟩
            · rw [cond_t c] at h
              exact ih x0 x1 0 true x4 ((IntKind.i64.wrap (x5 + 1))) _ h
            · rw [cond_f c] at h
              exact ih x0 x1 ((IntKind.i64.wrap (IntKind.i64.wrap (10 * x2) + IntKind.i64.wrap (IntKind.u8.wrap (bAt x0 x5 - 48))))) x3 x4 ((IntKind.i64.wrap (x5 + 1))) _ h
        · rw [if_neg q] at h; cases h
      · rw [cond_f c] at h
        refine ⟨fun c => ?_, fun c => ?_⟩
        · rw [cond_t c] at h
          cases h; exact ⟨rfl, rfl⟩
        · rw [cond_f c] at h
          refine ⟨fun c => ?_, fun c => ?_⟩
          · rw [cond_t c] at h
            cases h; exact ⟨rfl, rfl⟩
          · rw [cond_f c] at h
            cases h; exact ⟨rfl, rfl⟩
theorem of22 (k : Nat) (s_ : ByteArray) (r : R22) (h : f22 k s_ = some r) : CC Tryd.prog 22 (args22 s_) [] (res22 r) (bo22 r) := by
  refine CC.of (fn := Tryd.f22) (by kernel_rfl) (by kernel_rfl) (by kernel_rfl) (by kernel_rfl) ?_
  unfold f22 at h
  refine Ev.tree hm (R := Rt) (K := (K22 k)) (l := []) (C := [(6, [.auto [4, 5, 6, 7, 27, 28] false])]) (E := [.auto [2, 3] true]) (n := 1000) (T := .need [CC Tryd.prog 37 (args37 s_ (ByteArray.mk #[45])) [] (res37 (v37 k s_ (ByteArray.mk #[45]))) (bo37 (v37 k s_ (ByteArray.mk #[45])))] (.need [((v37 k s_ (ByteArray.mk #[(45 : UInt8)])).fst.toList == (ByteArray.mk #[]).toList) = false → (0 : Int) ≤ (0 : Int), ((v37 k s_ (ByteArray.mk #[(45 : UInt8)])).fst.toList == (ByteArray.mk #[]).toList) = false → (0 : Int) < (↑ (v37 k s_ (ByteArray.mk #[(45 : UInt8)])).fst.size : Int)] (.test (((v37 k s_ (ByteArray.mk #[(45 : UInt8)])).fst.toList == (ByteArray.mk #[]).toList || bAt (v37 k s_ (ByteArray.mk #[(45 : UInt8)])).fst (0 : Int) == (48 : Int) && (!s_.toList == (ByteArray.mk #[(48 : UInt8)]).toList))) (.leaf (res22 ((0, 3))) (bo22 ((0, 3)))) (.cut 6 (placeAt Tryd.f22 6) (st22_6 ((v37 k s_ (ByteArray.mk #[45])).fst) ((v37 k s_ (ByteArray.mk #[45])).snd) 0 false ((↑ (v37 k s_ (ByteArray.mk #[45])).fst.size : Int)) 0))))) (by kernel_rfl) ?_
  by_cases q : ((f37 k s_ (ByteArray.mk #[45])).isSome = true)
  · rw [if_pos q] at h
    refine ⟨(conjC (cc37 k s_ (ByteArray.mk #[45]) q) conj0), ?_⟩
    by_cases q : (((v37 k s_ (ByteArray.mk #[(45 : UInt8)])).fst.toList == (ByteArray.mk #[]).toList) = false → (0 : Int) ≤ (0 : Int)) ∧ (((v37 k s_ (ByteArray.mk #[(45 : UInt8)])).fst.toList == (ByteArray.mk #[]).toList) = false → (0 : Int) < (↑ (v37 k s_ (ByteArray.mk #[(45 : UInt8)])).fst.size : Int))
    · rw [if_pos q] at h
      refine ⟨(conjC q.1 (conjC q.2 conj0)), ?_⟩
      refine ⟨fun c => ?_, fun c => ?_⟩
      · rw [cond_t c] at h
        cases h; exact ⟨rfl, rfl⟩
      · rw [cond_f c] at h
        exact (ev22 k k) ((v37 k s_ (ByteArray.mk #[45])).fst) ((v37 k s_ (ByteArray.mk #[45])).snd) 0 false ((↑ (v37 k s_ (ByteArray.mk #[45])).fst.size : Int)) 0 _ h
    · rw [if_neg q] at h; cases h
  · rw [if_neg q] at h; cases h
theorem cc22 (k : Nat) (s_ : ByteArray) (h : (f22 k s_).isSome = true) : CC Tryd.prog 22 (args22 s_) [] (res22 (v22 k s_)) (bo22 (v22 k s_)) := by
  cases e : f22 k s_ with
  | none => rw [e] at h; cases h
  | some r => rw [show v22 k s_ = r by simp [v22, e]]; exact of22 k s_ r e

end
end Go.AM
namespace Go.AM
open Go Go.Proofs
set_option linter.unusedVariables false
noncomputable section
def bs_H07f13_0 : ByteArray := ByteArray.mk #[35, 32, 120, 10, 97, 32, 98, 10, 10]
def bs_H07f13_1 : ByteArray := ByteArray.mk #[49, 48, 48, 48, 48, 48, 48, 48, 48, 48, 48, 48, 49]
def bs_H07f13_2 : ByteArray := ByteArray.mk #[45, 49, 48, 48, 48, 48, 48, 48, 48, 48, 48, 48, 48, 48]
def bs_H07f13_3 : ByteArray := ByteArray.mk #[(97 : UInt8), (32 : UInt8), (34 : UInt8), (34 : UInt8), (32 : UInt8), (34 : UInt8), (98 : UInt8), (92 : UInt8), (34 : UInt8), (99 : UInt8), (34 : UInt8)]
def bs_H07f13_4 : ByteArray := ByteArray.mk #[(35 : UInt8), (32 : UInt8), (120 : UInt8), (10 : UInt8), (97 : UInt8), (32 : UInt8), (98 : UInt8), (10 : UInt8), (10 : UInt8)]
/-! ### function 13: papermill/papermilllaw07.awake -/
def K13 (k : Nat) : Calld := ⟨fun g => match g with
  | 14 => some [false]
  | 16 => some [false]
  | 18 => some [false, false]
  | 19 => some [false]
  | 21 => some [false, false]
  | 22 => some [false]
  | _ => none, fun g xs _ => match g with
  | 14 => match xs with
    | [.r (.ro t0_ q0)] => (castL t0_ RTy.str q0).bind fun fields_ => some (res14 (v14 k fields_), bo14 (v14 k fields_))
    | _ => none
  | 16 => match xs with
    | [.r (.v (.string line_))] => some (res16 (v16 k line_), bo16 (v16 k line_))
    | _ => none
  | 18 => match xs with
    | [.r (.ro t0_ q0), .r (.ro t1_ q1)] => (castL t0_ RTy.str q0).bind fun a_ => (castL t1_ RTy.str q1).bind fun b_ => some (res18 (v18 k a_ b_), bo18 (v18 k a_ b_))
    | _ => none
  | 19 => match xs with
    | [.r (.v (.string text_))] => some (res19 (v19 k text_), bo19 (v19 k text_))
    | _ => none
  | 21 => match xs with
    | [.r (.ro t0_ q0), .r (.ro t1_ q1)] => (castL t0_ (RTy.list RTy.str) q0).bind fun a_ => (castL t1_ (RTy.list RTy.str) q1).bind fun b_ => some (res21 (v21 k a_ b_), bo21 (v21 k a_ b_))
    | _ => none
  | 22 => match xs with
    | [.r (.v (.string s_))] => some (res22 (v22 k s_), bo22 (v22 k s_))
    | _ => none
  | _ => none⟩
abbrev R13 : Type := Bool
def res13 (r : R13) : AV := .r (.v (.bool r))
def bo13 (r : R13) : List (Nat × Blk) := []
def f13 (k : Nat)  : Option R13 :=
  if ((f14 k [(ByteArray.mk #[97]), (ByteArray.mk #[]), (ByteArray.mk #[98, 34, 99])]).isSome = true) then
    if ((f16 k (v14 k [(ByteArray.mk #[97]), (ByteArray.mk #[]), (ByteArray.mk #[98, 34, 99])]).fst).isSome = true) then
      if ((f16 k (ByteArray.mk #[97, 32, 32, 98])).isSome = true) then
        if ((f16 k (ByteArray.mk #[34, 97, 34])).isSome = true) then
          if ((f16 k (ByteArray.mk #[97, 34, 98])).isSome = true) then
            if ((f19 k bs_H07f13_0).isSome = true) then
              if ((f22 k (ByteArray.mk #[45, 48])).isSome = true) then
                if ((f22 k bs_H07f13_1).isSome = true) then
                  if ((f22 k bs_H07f13_2).isSome = true) then
                    bif ((v14 k [(ByteArray.mk #[(97 : UInt8)]), (ByteArray.mk #[]), (ByteArray.mk #[(98 : UInt8), (34 : UInt8), (99 : UInt8)])]).snd == (0 : Int) && (v14 k [(ByteArray.mk #[(97 : UInt8)]), (ByteArray.mk #[]), (ByteArray.mk #[(98 : UInt8), (34 : UInt8), (99 : UInt8)])]).fst.toList == bs_H07f13_3.toList && (v16 k (v14 k [(ByteArray.mk #[(97 : UInt8)]), (ByteArray.mk #[]), (ByteArray.mk #[(98 : UInt8), (34 : UInt8), (99 : UInt8)])]).fst).fst == (0 : Int)) then
                      bif (true && v18 k (v16 k (v14 k [(ByteArray.mk #[(97 : UInt8)]), (ByteArray.mk #[]), (ByteArray.mk #[(98 : UInt8), (34 : UInt8), (99 : UInt8)])]).fst).snd [(ByteArray.mk #[(97 : UInt8)]), (ByteArray.mk #[]), (ByteArray.mk #[(98 : UInt8), (34 : UInt8), (99 : UInt8)])] && (v16 k (ByteArray.mk #[(97 : UInt8), (32 : UInt8), (32 : UInt8), (98 : UInt8)])).fst == (3 : Int) && (v16 k (ByteArray.mk #[(34 : UInt8), (97 : UInt8), (34 : UInt8)])).fst == (3 : Int) && (v16 k (ByteArray.mk #[(97 : UInt8), (34 : UInt8), (98 : UInt8)])).fst == (3 : Int) && (v19 k bs_H07f13_4).fst == (0 : Int)) then
                        if (((v14 k [(ByteArray.mk #[(97 : UInt8)]), (ByteArray.mk #[]), (ByteArray.mk #[(98 : UInt8), (34 : UInt8), (99 : UInt8)])]).snd == (0 : Int) && (v14 k [(ByteArray.mk #[(97 : UInt8)]), (ByteArray.mk #[]), (ByteArray.mk #[(98 : UInt8), (34 : UInt8), (99 : UInt8)])]).fst.toList == bs_H07f13_3.toList && (v16 k (v14 k [(ByteArray.mk #[(97 : UInt8)]), (ByteArray.mk #[]), (ByteArray.mk #[(98 : UInt8), (34 : UInt8), (99 : UInt8)])]).fst).fst == (0 : Int)) = true) ∧ ((f18 k (v16 k (v14 k [(ByteArray.mk #[97]), (ByteArray.mk #[]), (ByteArray.mk #[98, 34, 99])]).fst).snd [(ByteArray.mk #[97]), (ByteArray.mk #[]), (ByteArray.mk #[98, 34, 99])]).isSome = true) ∧ ((true && v18 k (v16 k (v14 k [(ByteArray.mk #[(97 : UInt8)]), (ByteArray.mk #[]), (ByteArray.mk #[(98 : UInt8), (34 : UInt8), (99 : UInt8)])]).fst).snd [(ByteArray.mk #[(97 : UInt8)]), (ByteArray.mk #[]), (ByteArray.mk #[(98 : UInt8), (34 : UInt8), (99 : UInt8)])] && (v16 k (ByteArray.mk #[(97 : UInt8), (32 : UInt8), (32 : UInt8), (98 : UInt8)])).fst == (3 : Int) && (v16 k (ByteArray.mk #[(34 : UInt8), (97 : UInt8), (34 : UInt8)])).fst == (3 : Int) && (v16 k (ByteArray.mk #[(97 : UInt8), (34 : UInt8), (98 : UInt8)])).fst == (3 : Int) && (v19 k bs_H07f13_4).fst == (0 : Int)) = true) ∧ ((f21 k (v19 k bs_H07f13_0).snd [[(ByteArray.mk #[97]), (ByteArray.mk #[98])]]).isSome = true) then
                          some (true && v21 k (v19 k bs_H07f13_0).snd [[(ByteArray.mk #[97]), (ByteArray.mk #[98])]] && (v22 k (ByteArray.mk #[45, 48])).snd == 3 && (v22 k bs_H07f13_1).snd == 1 && (v22 k bs_H07f13_2).fst == (-1000000000000) && (v22 k bs_H07f13_2).snd == 0)
                        else none
                      else
                        if (((v14 k [(ByteArray.mk #[(97 : UInt8)]), (ByteArray.mk #[]), (ByteArray.mk #[(98 : UInt8), (34 : UInt8), (99 : UInt8)])]).snd == (0 : Int) && (v14 k [(ByteArray.mk #[(97 : UInt8)]), (ByteArray.mk #[]), (ByteArray.mk #[(98 : UInt8), (34 : UInt8), (99 : UInt8)])]).fst.toList == bs_H07f13_3.toList && (v16 k (v14 k [(ByteArray.mk #[(97 : UInt8)]), (ByteArray.mk #[]), (ByteArray.mk #[(98 : UInt8), (34 : UInt8), (99 : UInt8)])]).fst).fst == (0 : Int)) = true) ∧ ((f18 k (v16 k (v14 k [(ByteArray.mk #[97]), (ByteArray.mk #[]), (ByteArray.mk #[98, 34, 99])]).fst).snd [(ByteArray.mk #[97]), (ByteArray.mk #[]), (ByteArray.mk #[98, 34, 99])]).isSome = true) ∧ ((true && v18 k (v16 k (v14 k [(ByteArray.mk #[(97 : UInt8)]), (ByteArray.mk #[]), (ByteArray.mk #[(98 : UInt8), (34 : UInt8), (99 : UInt8)])]).fst).snd [(ByteArray.mk #[(97 : UInt8)]), (ByteArray.mk #[]), (ByteArray.mk #[(98 : UInt8), (34 : UInt8), (99 : UInt8)])] && (v16 k (ByteArray.mk #[(97 : UInt8), (32 : UInt8), (32 : UInt8), (98 : UInt8)])).fst == (3 : Int) && (v16 k (ByteArray.mk #[(34 : UInt8), (97 : UInt8), (34 : UInt8)])).fst == (3 : Int) && (v16 k (ByteArray.mk #[(97 : UInt8), (34 : UInt8), (98 : UInt8)])).fst == (3 : Int) && (v19 k bs_H07f13_4).fst == (0 : Int)) = false) then
                          some (false && (v22 k (ByteArray.mk #[45, 48])).snd == 3 && (v22 k bs_H07f13_1).snd == 1 && (v22 k bs_H07f13_2).fst == (-1000000000000) && (v22 k bs_H07f13_2).snd == 0)
                        else none
                    else
                      bif (false && (v16 k (ByteArray.mk #[(97 : UInt8), (32 : UInt8), (32 : UInt8), (98 : UInt8)])).fst == (3 : Int) && (v16 k (ByteArray.mk #[(34 : UInt8), (97 : UInt8), (34 : UInt8)])).fst == (3 : Int) && (v16 k (ByteArray.mk #[(97 : UInt8), (34 : UInt8), (98 : UInt8)])).fst == (3 : Int) && (v19 k bs_H07f13_4).fst == (0 : Int)) then
                        if (((v14 k [(ByteArray.mk #[(97 : UInt8)]), (ByteArray.mk #[]), (ByteArray.mk #[(98 : UInt8), (34 : UInt8), (99 : UInt8)])]).snd == (0 : Int) && (v14 k [(ByteArray.mk #[(97 : UInt8)]), (ByteArray.mk #[]), (ByteArray.mk #[(98 : UInt8), (34 : UInt8), (99 : UInt8)])]).fst.toList == bs_H07f13_3.toList && (v16 k (v14 k [(ByteArray.mk #[(97 : UInt8)]), (ByteArray.mk #[]), (ByteArray.mk #[(98 : UInt8), (34 : UInt8), (99 : UInt8)])]).fst).fst == (0 : Int)) = false) ∧ ((false && (v16 k (ByteArray.mk #[(97 : UInt8), (32 : UInt8), (32 : UInt8), (98 : UInt8)])).fst == (3 : Int) && (v16 k (ByteArray.mk #[(34 : UInt8), (97 : UInt8), (34 : UInt8)])).fst == (3 : Int) && (v16 k (ByteArray.mk #[(97 : UInt8), (34 : UInt8), (98 : UInt8)])).fst == (3 : Int) && (v19 k bs_H07f13_4).fst == (0 : Int)) = true) ∧ ((f21 k (v19 k bs_H07f13_0).snd [[(ByteArray.mk #[97]), (ByteArray.mk #[98])]]).isSome = true) then
                          some (true && v21 k (v19 k bs_H07f13_0).snd [[(ByteArray.mk #[97]), (ByteArray.mk #[98])]] && (v22 k (ByteArray.mk #[45, 48])).snd == 3 && (v22 k bs_H07f13_1).snd == 1 && (v22 k bs_H07f13_2).fst == (-1000000000000) && (v22 k bs_H07f13_2).snd == 0)
                        else none
                      else
                        if (((v14 k [(ByteArray.mk #[(97 : UInt8)]), (ByteArray.mk #[]), (ByteArray.mk #[(98 : UInt8), (34 : UInt8), (99 : UInt8)])]).snd == (0 : Int) && (v14 k [(ByteArray.mk #[(97 : UInt8)]), (ByteArray.mk #[]), (ByteArray.mk #[(98 : UInt8), (34 : UInt8), (99 : UInt8)])]).fst.toList == bs_H07f13_3.toList && (v16 k (v14 k [(ByteArray.mk #[(97 : UInt8)]), (ByteArray.mk #[]), (ByteArray.mk #[(98 : UInt8), (34 : UInt8), (99 : UInt8)])]).fst).fst == (0 : Int)) = false) ∧ ((false && (v16 k (ByteArray.mk #[(97 : UInt8), (32 : UInt8), (32 : UInt8), (98 : UInt8)])).fst == (3 : Int) && (v16 k (ByteArray.mk #[(34 : UInt8), (97 : UInt8), (34 : UInt8)])).fst == (3 : Int) && (v16 k (ByteArray.mk #[(97 : UInt8), (34 : UInt8), (98 : UInt8)])).fst == (3 : Int) && (v19 k bs_H07f13_4).fst == (0 : Int)) = false) then
                          some (false && (v22 k (ByteArray.mk #[45, 48])).snd == 3 && (v22 k bs_H07f13_1).snd == 1 && (v22 k bs_H07f13_2).fst == (-1000000000000) && (v22 k bs_H07f13_2).snd == 0)
                        else none
                  else none
                else none
              else none
            else none
          else none
        else none
      else none
    else none
  else none
def args13  : List AV := []
def v13 (k : Nat)  : R13 := (f13 k ).getD false
theorem of13 (k : Nat)  (r : R13) (h : f13 k  = some r) : CC Tryd.prog 13 (args13 ) [] (res13 r) (bo13 r) := by
  refine CC.of (fn := Tryd.f13) (by kernel_rfl) (by kernel_rfl) (by kernel_rfl) (by kernel_rfl) ?_
  unfold f13 at h
  refine Ev.tree hm (R := Rt) (K := (K13 k)) (l := []) (C := []) (E := [.auto [0] true]) (n := 1000) (T := .need [CC Tryd.prog 14 (args14 [(ByteArray.mk #[97]), (ByteArray.mk #[]), (ByteArray.mk #[98, 34, 99])]) [] (res14 (v14 k [(ByteArray.mk #[97]), (ByteArray.mk #[]), (ByteArray.mk #[98, 34, 99])])) (bo14 (v14 k [(ByteArray.mk #[97]), (ByteArray.mk #[]), (ByteArray.mk #[98, 34, 99])]))] (.need [CC Tryd.prog 16 (args16 (v14 k [(ByteArray.mk #[97]), (ByteArray.mk #[]), (ByteArray.mk #[98, 34, 99])]).fst) [] (res16 (v16 k (v14 k [(ByteArray.mk #[97]), (ByteArray.mk #[]), (ByteArray.mk #[98, 34, 99])]).fst)) (bo16 (v16 k (v14 k [(ByteArray.mk #[97]), (ByteArray.mk #[]), (ByteArray.mk #[98, 34, 99])]).fst))] (.need [CC Tryd.prog 16 (args16 (ByteArray.mk #[97, 32, 32, 98])) [] (res16 (v16 k (ByteArray.mk #[97, 32, 32, 98]))) (bo16 (v16 k (ByteArray.mk #[97, 32, 32, 98])))] (.need [CC Tryd.prog 16 (args16 (ByteArray.mk #[34, 97, 34])) [] (res16 (v16 k (ByteArray.mk #[34, 97, 34]))) (bo16 (v16 k (ByteArray.mk #[34, 97, 34])))] (.need [CC Tryd.prog 16 (args16 (ByteArray.mk #[97, 34, 98])) [] (res16 (v16 k (ByteArray.mk #[97, 34, 98]))) (bo16 (v16 k (ByteArray.mk #[97, 34, 98])))] (.need [CC Tryd.prog 19 (args19 bs_H07f13_0) [] (res19 (v19 k bs_H07f13_0)) (bo19 (v19 k bs_H07f13_0))] (.need [CC Tryd.prog 22 (args22 (ByteArray.mk #[45, 48])) [] (res22 (v22 k (ByteArray.mk #[45, 48]))) (bo22 (v22 k (ByteArray.mk #[45, 48])))] (.need [CC Tryd.prog 22 (args22 bs_H07f13_1) [] (res22 (v22 k bs_H07f13_1)) (bo22 (v22 k bs_H07f13_1))] (.need [CC Tryd.prog 22 (args22 bs_H07f13_2) [] (res22 (v22 k bs_H07f13_2)) (bo22 (v22 k bs_H07f13_2))] (.test (((v14 k [(ByteArray.mk #[(97 : UInt8)]), (ByteArray.mk #[]), (ByteArray.mk #[(98 : UInt8), (34 : UInt8), (99 : UInt8)])]).snd == (0 : Int) && (v14 k [(ByteArray.mk #[(97 : UInt8)]), (ByteArray.mk #[]), (ByteArray.mk #[(98 : UInt8), (34 : UInt8), (99 : UInt8)])]).fst.toList == bs_H07f13_3.toList && (v16 k (v14 k [(ByteArray.mk #[(97 : UInt8)]), (ByteArray.mk #[]), (ByteArray.mk #[(98 : UInt8), (34 : UInt8), (99 : UInt8)])]).fst).fst == (0 : Int))) (.test ((true && v18 k (v16 k (v14 k [(ByteArray.mk #[(97 : UInt8)]), (ByteArray.mk #[]), (ByteArray.mk #[(98 : UInt8), (34 : UInt8), (99 : UInt8)])]).fst).snd [(ByteArray.mk #[(97 : UInt8)]), (ByteArray.mk #[]), (ByteArray.mk #[(98 : UInt8), (34 : UInt8), (99 : UInt8)])] && (v16 k (ByteArray.mk #[(97 : UInt8), (32 : UInt8), (32 : UInt8), (98 : UInt8)])).fst == (3 : Int) && (v16 k (ByteArray.mk #[(34 : UInt8), (97 : UInt8), (34 : UInt8)])).fst == (3 : Int) && (v16 k (ByteArray.mk #[(97 : UInt8), (34 : UInt8), (98 : UInt8)])).fst == (3 : Int) && (v19 k bs_H07f13_4).fst == (0 : Int))) (.need [((v14 k [(ByteArray.mk #[(97 : UInt8)]), (ByteArray.mk #[]), (ByteArray.mk #[(98 : UInt8), (34 : UInt8), (99 : UInt8)])]).snd == (0 : Int) && (v14 k [(ByteArray.mk #[(97 : UInt8)]), (ByteArray.mk #[]), (ByteArray.mk #[(98 : UInt8), (34 : UInt8), (99 : UInt8)])]).fst.toList == bs_H07f13_3.toList && (v16 k (v14 k [(ByteArray.mk #[(97 : UInt8)]), (ByteArray.mk #[]), (ByteArray.mk #[(98 : UInt8), (34 : UInt8), (99 : UInt8)])]).fst).fst == (0 : Int)) = true, CC Tryd.prog 18 (args18 (v16 k (v14 k [(ByteArray.mk #[97]), (ByteArray.mk #[]), (ByteArray.mk #[98, 34, 99])]).fst).snd [(ByteArray.mk #[97]), (ByteArray.mk #[]), (ByteArray.mk #[98, 34, 99])]) [] (res18 (v18 k (v16 k (v14 k [(ByteArray.mk #[97]), (ByteArray.mk #[]), (ByteArray.mk #[98, 34, 99])]).fst).snd [(ByteArray.mk #[97]), (ByteArray.mk #[]), (ByteArray.mk #[98, 34, 99])])) (bo18 (v18 k (v16 k (v14 k [(ByteArray.mk #[97]), (ByteArray.mk #[]), (ByteArray.mk #[98, 34, 99])]).fst).snd [(ByteArray.mk #[97]), (ByteArray.mk #[]), (ByteArray.mk #[98, 34, 99])])), (true && v18 k (v16 k (v14 k [(ByteArray.mk #[(97 : UInt8)]), (ByteArray.mk #[]), (ByteArray.mk #[(98 : UInt8), (34 : UInt8), (99 : UInt8)])]).fst).snd [(ByteArray.mk #[(97 : UInt8)]), (ByteArray.mk #[]), (ByteArray.mk #[(98 : UInt8), (34 : UInt8), (99 : UInt8)])] && (v16 k (ByteArray.mk #[(97 : UInt8), (32 : UInt8), (32 : UInt8), (98 : UInt8)])).fst == (3 : Int) && (v16 k (ByteArray.mk #[(34 : UInt8), (97 : UInt8), (34 : UInt8)])).fst == (3 : Int) && (v16 k (ByteArray.mk #[(97 : UInt8), (34 : UInt8), (98 : UInt8)])).fst == (3 : Int) && (v19 k bs_H07f13_4).fst == (0 : Int)) = true, CC Tryd.prog 21 (args21 (v19 k bs_H07f13_0).snd [[(ByteArray.mk #[97]), (ByteArray.mk #[98])]]) [] (res21 (v21 k (v19 k bs_H07f13_0).snd [[(ByteArray.mk #[97]), (ByteArray.mk #[98])]])) (bo21 (v21 k (v19 k bs_H07f13_0).snd [[(ByteArray.mk #[97]), (ByteArray.mk #[98])]]))] (.leaf (res13 (true && v21 k (v19 k bs_H07f13_0).snd [[(ByteArray.mk #[97]), (ByteArray.mk #[98])]] && (v22 k (ByteArray.mk #[45, 48])).snd == 3 && (v22 k bs_H07f13_1).snd == 1 && (v22 k bs_H07f13_2).fst == (-1000000000000) && (v22 k bs_H07f13_2).snd == 0)) (bo13 (true && v21 k (v19 k bs_H07f13_0).snd [[(ByteArray.mk #[97]), (ByteArray.mk #[98])]] && (v22 k (ByteArray.mk #[45, 48])).snd == 3 && (v22 k bs_H07f13_1).snd == 1 && (v22 k bs_H07f13_2).fst == (-1000000000000) && (v22 k bs_H07f13_2).snd == 0)))) (.need [((v14 k [(ByteArray.mk #[(97 : UInt8)]), (ByteArray.mk #[]), (ByteArray.mk #[(98 : UInt8), (34 : UInt8), (99 : UInt8)])]).snd == (0 : Int) && (v14 k [(ByteArray.mk #[(97 : UInt8)]), (ByteArray.mk #[]), (ByteArray.mk #[(98 : UInt8), (34 : UInt8), (99 : UInt8)])]).fst.toList == bs_H07f13_3.toList && (v16 k (v14 k [(ByteArray.mk #[(97 : UInt8)]), (ByteArray.mk #[]), (ByteArray.mk #[(98 : UInt8), (34 : UInt8), (99 : UInt8)])]).fst).fst == (0 : Int)) = true, CC Tryd.prog 18 (args18 (v16 k (v14 k [(ByteArray.mk #[97]), (ByteArray.mk #[]), (ByteArray.mk #[98, 34, 99])]).fst).snd [(ByteArray.mk #[97]), (ByteArray.mk #[]), (ByteArray.mk #[98, 34, 99])]) [] (res18 (v18 k (v16 k (v14 k [(ByteArray.mk #[97]), (ByteArray.mk #[]), (ByteArray.mk #[98, 34, 99])]).fst).snd [(ByteArray.mk #[97]), (ByteArray.mk #[]), (ByteArray.mk #[98, 34, 99])])) (bo18 (v18 k (v16 k (v14 k [(ByteArray.mk #[97]), (ByteArray.mk #[]), (ByteArray.mk #[98, 34, 99])]).fst).snd [(ByteArray.mk #[97]), (ByteArray.mk #[]), (ByteArray.mk #[98, 34, 99])])), (true && v18 k (v16 k (v14 k [(ByteArray.mk #[(97 : UInt8)]), (ByteArray.mk #[]), (ByteArray.mk #[(98 : UInt8), (34 : UInt8), (99 : UInt8)])]).fst).snd [(ByteArray.mk #[(97 : UInt8)]), (ByteArray.mk #[]), (ByteArray.mk #[(98 : UInt8), (34 : UInt8), (99 : UInt8)])] && (v16 k (ByteArray.mk #[(97 : UInt8), (32 : UInt8), (32 : UInt8), (98 : UInt8)])).fst == (3 : Int) && (v16 k (ByteArray.mk #[(34 : UInt8), (97 : UInt8), (34 : UInt8)])).fst == (3 : Int) && (v16 k (ByteArray.mk #[(97 : UInt8), (34 : UInt8), (98 : UInt8)])).fst == (3 : Int) && (v19 k bs_H07f13_4).fst == (0 : Int)) = false] (.leaf (res13 (false && (v22 k (ByteArray.mk #[45, 48])).snd == 3 && (v22 k bs_H07f13_1).snd == 1 && (v22 k bs_H07f13_2).fst == (-1000000000000) && (v22 k bs_H07f13_2).snd == 0)) (bo13 (false && (v22 k (ByteArray.mk #[45, 48])).snd == 3 && (v22 k bs_H07f13_1).snd == 1 && (v22 k bs_H07f13_2).fst == (-1000000000000) && (v22 k bs_H07f13_2).snd == 0))))) (.test ((false && (v16 k (ByteArray.mk #[(97 : UInt8), (32 : UInt8), (32 : UInt8), (98 : UInt8)])).fst == (3 : Int) && (v16 k (ByteArray.mk #[(34 : UInt8), (97 : UInt8), (34 : UInt8)])).fst == (3 : Int) && (v16 k (ByteArray.mk #[(97 : UInt8), (34 : UInt8), (98 : UInt8)])).fst == (3 : Int) && (v19 k bs_H07f13_4).fst == (0 : Int))) (.need [((v14 k [(ByteArray.mk #[(97 : UInt8)]), (ByteArray.mk #[]), (ByteArray.mk #[(98 : UInt8), (34 : UInt8), (99 : UInt8)])]).snd == (0 : Int) && (v14 k [(ByteArray.mk #[(97 : UInt8)]), (ByteArray.mk #[]), (ByteArray.mk #[(98 : UInt8), (34 : UInt8), (99 : UInt8)])]).fst.toList == bs_H07f13_3.toList && (v16 k (v14 k [(ByteArray.mk #[(97 : UInt8)]), (ByteArray.mk #[]), (ByteArray.mk #[(98 : UInt8), (34 : UInt8), (99 : UInt8)])]).fst).fst == (0 : Int)) = false, (false && (v16 k (ByteArray.mk #[(97 : UInt8), (32 : UInt8), (32 : UInt8), (98 : UInt8)])).fst == (3 : Int) && (v16 k (ByteArray.mk #[(34 : UInt8), (97 : UInt8), (34 : UInt8)])).fst == (3 : Int) && (v16 k (ByteArray.mk #[(97 : UInt8), (34 : UInt8), (98 : UInt8)])).fst == (3 : Int) && (v19 k bs_H07f13_4).fst == (0 : Int)) = true, CC Tryd.prog 21 (args21 (v19 k bs_H07f13_0).snd [[(ByteArray.mk #[97]), (ByteArray.mk #[98])]]) [] (res21 (v21 k (v19 k bs_H07f13_0).snd [[(ByteArray.mk #[97]), (ByteArray.mk #[98])]])) (bo21 (v21 k (v19 k bs_H07f13_0).snd [[(ByteArray.mk #[97]), (ByteArray.mk #[98])]]))] (.leaf (res13 (true && v21 k (v19 k bs_H07f13_0).snd [[(ByteArray.mk #[97]), (ByteArray.mk #[98])]] && (v22 k (ByteArray.mk #[45, 48])).snd == 3 && (v22 k bs_H07f13_1).snd == 1 && (v22 k bs_H07f13_2).fst == (-1000000000000) && (v22 k bs_H07f13_2).snd == 0)) (bo13 (true && v21 k (v19 k bs_H07f13_0).snd [[(ByteArray.mk #[97]), (ByteArray.mk #[98])]] && (v22 k (ByteArray.mk #[45, 48])).snd == 3 && (v22 k bs_H07f13_1).snd == 1 && (v22 k bs_H07f13_2).fst == (-1000000000000) && (v22 k bs_H07f13_2).snd == 0)))) (.need [((v14 k [(ByteArray.mk #[(97 : UInt8)]), (ByteArray.mk #[]), (ByteArray.mk #[(98 : UInt8), (34 : UInt8), (99 : UInt8)])]).snd == (0 : Int) && (v14 k [(ByteArray.mk #[(97 : UInt8)]), (ByteArray.mk #[]), (ByteArray.mk #[(98 : UInt8), (34 : UInt8), (99 : UInt8)])]).fst.toList == bs_H07f13_3.toList && (v16 k (v14 k [(ByteArray.mk #[(97 : UInt8)]), (ByteArray.mk #[]), (ByteArray.mk #[(98 : UInt8), (34 : UInt8), (99 : UInt8)])]).fst).fst == (0 : Int)) = false, (false && (v16 k (ByteArray.mk #[(97 : UInt8), (32 : UInt8), (32 : UInt8), (98 : UInt8)])).fst == (3 : Int) && (v16 k (ByteArray.mk #[(34 : UInt8), (97 : UInt8), (34 : UInt8)])).fst == (3 : Int) && (v16 k (ByteArray.mk #[(97 : UInt8), (34 : UInt8), (98 : UInt8)])).fst == (3 : Int) && (v19 k bs_H07f13_4).fst == (0 : Int)) = false] (.leaf (res13 (false && (v22 k (ByteArray.mk #[45, 48])).snd == 3 && (v22 k bs_H07f13_1).snd == 1 && (v22 k bs_H07f13_2).fst == (-1000000000000) && (v22 k bs_H07f13_2).snd == 0)) (bo13 (false && (v22 k (ByteArray.mk #[45, 48])).snd == 3 && (v22 k bs_H07f13_1).snd == 1 && (v22 k bs_H07f13_2).fst == (-1000000000000) && (v22 k bs_H07f13_2).snd == 0))))))))))))))) (by kernel_rfl) ?_
  by_cases q : ((f14 k [(ByteArray.mk #[97]), (ByteArray.mk #[]), (ByteArray.mk #[98, 34, 99])]).isSome = true)
  · rw [if_pos q] at h
    refine ⟨(conjC (cc14 k [(ByteArray.mk #[97]), (ByteArray.mk #[]), (ByteArray.mk #[98, 34, 99])] q) conj0), ?_⟩
    by_cases q : ((f16 k (v14 k [(ByteArray.mk #[97]), (ByteArray.mk #[]), (ByteArray.mk #[98, 34, 99])]).fst).isSome = true)
    · rw [if_pos q] at h
      refine ⟨(conjC (cc16 k (v14 k [(ByteArray.mk #[97]), (ByteArray.mk #[]), (ByteArray.mk #[98, 34, 99])]).fst q) conj0), ?_⟩
      by_cases q : ((f16 k (ByteArray.mk #[97, 32, 32, 98])).isSome = true)
      · rw [if_pos q] at h
        refine ⟨(conjC (cc16 k (ByteArray.mk #[97, 32, 32, 98]) q) conj0), ?_⟩
        by_cases q : ((f16 k (ByteArray.mk #[34, 97, 34])).isSome = true)
        · rw [if_pos q] at h
          refine ⟨(conjC (cc16 k (ByteArray.mk #[34, 97, 34]) q) conj0), ?_⟩
          by_cases q : ((f16 k (ByteArray.mk #[97, 34, 98])).isSome = true)
          · rw [if_pos q] at h
            refine ⟨(conjC (cc16 k (ByteArray.mk #[97, 34, 98]) q) conj0), ?_⟩
            by_cases q : ((f19 k bs_H07f13_0).isSome = true)
            · rw [if_pos q] at h
              refine ⟨(conjC (cc19 k bs_H07f13_0 q) conj0), ?_⟩
              by_cases q : ((f22 k (ByteArray.mk #[45, 48])).isSome = true)
              · rw [if_pos q] at h
                refine ⟨(conjC (cc22 k (ByteArray.mk #[45, 48]) q) conj0), ?_⟩
                by_cases q : ((f22 k bs_H07f13_1).isSome = true)
                · rw [if_pos q] at h
                  refine ⟨(conjC (cc22 k bs_H07f13_1 q) conj0), ?_⟩
                  by_cases q : ((f22 k bs_H07f13_2).isSome = true)
                  · rw [if_pos q] at h
                    refine ⟨(conjC (cc22 k bs_H07f13_2 q) conj0), ?_⟩
                    refine ⟨fun c => ?_, fun c => ?_⟩
                    · rw [cond_t c] at h
                      refine ⟨fun c => ?_, fun c => ?_⟩
                      · rw [cond_t c] at h
                        by_cases q : (((v14 k [(ByteArray.mk #[(97 : UInt8)]), (ByteArray.mk #[]), (ByteArray.mk #[(98 : UInt8), (34 : UInt8), (99 : UInt8)])]).snd == (0 : Int) && (v14 k [(ByteArray.mk #[(97 : UInt8)]), (ByteArray.mk #[]), (ByteArray.mk #[(98 : UInt8), (34 : UInt8), (99 : UInt8)])]).fst.toList == bs_H07f13_3.toList && (v16 k (v14 k [(ByteArray.mk #[(97 : UInt8)]), (ByteArray.mk #[]), (ByteArray.mk #[(98 : UInt8), (34 : UInt8), (99 : UInt8)])]).fst).fst == (0 : Int)) = true) ∧ ((f18 k (v16 k (v14 k [(ByteArray.mk #[97]), (ByteArray.mk #[]), (ByteArray.mk #[98, 34, 99])]).fst).snd [(ByteArray.mk #[97]), (ByteArray.mk #[]), (ByteArray.mk #[98, 34, 99])]).isSome = true) ∧ ((true && v18 k (v16 k (v14 k [(ByteArray.mk #[(97 : UInt8)]), (ByteArray.mk #[]), (ByteArray.mk #[(98 : UInt8), (34 : UInt8), (99 : UInt8)])]).fst).snd [(ByteArray.mk #[(97 : UInt8)]), (ByteArray.mk #[]), (ByteArray.mk #[(98 : UInt8), (34 : UInt8), (99 : UInt8)])] && (v16 k (ByteArray.mk #[(97 : UInt8), (32 : UInt8), (32 : UInt8), (98 : UInt8)])).fst == (3 : Int) && (v16 k (ByteArray.mk #[(34 : UInt8), (97 : UInt8), (34 : UInt8)])).fst == (3 : Int) && (v16 k (ByteArray.mk #[(97 : UInt8), (34 : UInt8), (98 : UInt8)])).fst == (3 : Int) && (v19 k bs_H07f13_4).fst == (0 : Int)) = true) ∧ ((f21 k (v19 k bs_H07f13_0).snd [[(ByteArray.mk #[97]), (ByteArray.mk #[98])]]).isSome = true)
                        · rw [if_pos q] at h
                          refine ⟨(conjC q.1 (conjC (cc18 k (v16 k (v14 k [(ByteArray.mk #[97]), (ByteArray.mk #[]), (ByteArray.mk #[98, 34, 99])]).fst).snd [(ByteArray.mk #[97]), (ByteArray.mk #[]), (ByteArray.mk #[98, 34, 99])] q.2.1) (conjC q.2.2.1 (conjC (cc21 k (v19 k bs_H07f13_0).snd [[(ByteArray.mk #[97]), (ByteArray.mk #[98])]] q.2.2.2) conj0)))), ?_⟩
                          cases h; exact ⟨rfl, rfl⟩
                        · rw [if_neg q] at h; cases h
                      · rw [cond_f c] at h
                        by_cases q : (((v14 k [(ByteArray.mk #[(97 : UInt8)]), (ByteArray.mk #[]), (ByteArray.mk #[(98 : UInt8), (34 : UInt8), (99 : UInt8)])]).snd == (0 : Int) && (v14 k [(ByteArray.mk #[(97 : UInt8)]), (ByteArray.mk #[]), (ByteArray.mk #[(98 : UInt8), (34 : UInt8), (99 : UInt8)])]).fst.toList == bs_H07f13_3.toList && (v16 k (v14 k [(ByteArray.mk #[(97 : UInt8)]), (ByteArray.mk #[]), (ByteArray.mk #[(98 : UInt8), (34 : UInt8), (99 : UInt8)])]).fst).fst == (0 : Int)) = true) ∧ ((f18 k (v16 k (v14 k [(ByteArray.mk #[97]), (ByteArray.mk #[]), (ByteArray.mk #[98, 34, 99])]).fst).snd [(ByteArray.mk #[97]), (ByteArray.mk #[]), (ByteArray.mk #[98, 34, 99])]).isSome = true) ∧ ((true && v18 k (v16 k (v14 k [(ByteArray.mk #[(97 : UInt8)]), (ByteArray.mk #[]), (ByteArray.mk #[(98 : UInt8), (34 : UInt8), (99 : UInt8)])]).fst).snd [(ByteArray.mk #[(97 : UInt8)]), (ByteArray.mk #[]), (ByteArray.mk #[(98 : UInt8), (34 : UInt8), (99 : UInt8)])] && (v16 k (ByteArray.mk #[(97 : UInt8), (32 : UInt8), (32 : UInt8), (98 : UInt8)])).fst == (3 : Int) && (v16 k (ByteArray.mk #[(34 : UInt8), (97 : UInt8), (34 : UInt8)])).fst == (3 : Int) && (v16 k (ByteArray.mk #[(97 : UInt8), (34 : UInt8), (98 : UInt8)])).fst == (3 : Int) && (v19 k bs_H07f13_4).fst == (0 : Int)) = false)
                        · rw [if_pos q] at h
                          refine ⟨(conjC q.1 (conjC (cc18 k (v16 k (v14 k [(ByteArray.mk #[97]), (ByteArray.mk #[]), (ByteArray.mk #[98, 34, 99])]).fst).snd [(ByteArray.mk #[97]), (ByteArray.mk #[]), (ByteArray.mk #[98, 34, 99])] q.2.1) (conjC q.2.2 conj0))), ?_⟩
                          cases h; exact ⟨rfl, rfl⟩
                        · rw [if_neg q] at h; cases h
                    · rw [cond_f c] at h
                      refine ⟨fun c => ?_, fun c => ?_⟩
                      · rw [cond_t c] at h
                        by_cases q : (((v14 k [(ByteArray.mk #[(97 : UInt8)]), (ByteArray.mk #[]), (ByteArray.mk #[(98 : UInt8), (34 : UInt8), (99 : UInt8)])]).snd == (0 : Int) && (v14 k [(ByteArray.mk #[(97 : UInt8)]), (ByteArray.mk #[]), (ByteArray.mk #[(98 : UInt8), (34 : UInt8), (99 : UInt8)])]).fst.toList == bs_H07f13_3.toList && (v16 k (v14 k [(ByteArray.mk #[(97 : UInt8)]), (ByteArray.mk #[]), (ByteArray.mk #[(98 : UInt8), (34 : UInt8), (99 : UInt8)])]).fst).fst == (0 : Int)) = false) ∧ ((false && (v16 k (ByteArray.mk #[(97 : UInt8), (32 : UInt8), (32 : UInt8), (98 : UInt8)])).fst == (3 : Int) && (v16 k (ByteArray.mk #[(34 : UInt8), (97 : UInt8), (34 : UInt8)])).fst == (3 : Int) && (v16 k (ByteArray.mk #[(97 : UInt8), (34 : UInt8), (98 : UInt8)])).fst == (3 : Int) && (v19 k bs_H07f13_4).fst == (0 : Int)) = true) ∧ ((f21 k (v19 k bs_H07f13_0).snd [[(ByteArray.mk #[97]), (ByteArray.mk #[98])]]).isSome = true)
                        · rw [if_pos q] at h
                          refine ⟨(conjC q.1 (conjC q.2.1 (conjC (cc21 k (v19 k bs_H07f13_0).snd [[(ByteArray.mk #[97]), (ByteArray.mk #[98])]] q.2.2) conj0))), ?_⟩
                          cases h; exact ⟨rfl, rfl⟩
                        · rw [if_neg q] at h; cases h
                      · rw [cond_f c] at h
                        by_cases q : (((v14 k [(ByteArray.mk #[(97 : UInt8)]), (ByteArray.mk #[]), (ByteArray.mk #[(98 : UInt8), (34 : UInt8), (99 : UInt8)])]).snd == (0 : Int) && (v14 k [(ByteArray.mk #[(97 : UInt8)]), (ByteArray.mk #[]), (ByteArray.mk #[(98 : UInt8), (34 : UInt8), (99 : UInt8)])]).fst.toList == bs_H07f13_3.toList && (v16 k (v14 k [(ByteArray.mk #[(97 : UInt8)]), (ByteArray.mk #[]), (ByteArray.mk #[(98 : UInt8), (34 : UInt8), (99 : UInt8)])]).fst).fst == (0 : Int)) = false) ∧ ((false && (v16 k (ByteArray.mk #[(97 : UInt8), (32 : UInt8), (32 : UInt8), (98 : UInt8)])).fst == (3 : Int) && (v16 k (ByteArray.mk #[(34 : UInt8), (97 : UInt8), (34 : UInt8)])).fst == (3 : Int) && (v16 k (ByteArray.mk #[(97 : UInt8), (34 : UInt8), (98 : UInt8)])).fst == (3 : Int) && (v19 k bs_H07f13_4).fst == (0 : Int)) = false)
                        · rw [if_pos q] at h
                          refine ⟨(conjC q.1 (conjC q.2 conj0)), ?_⟩
                          cases h; exact ⟨rfl, rfl⟩
                        · rw [if_neg q] at h; cases h
                  · rw [if_neg q] at h; cases h
                · rw [if_neg q] at h; cases h
              · rw [if_neg q] at h; cases h
            · rw [if_neg q] at h; cases h
          · rw [if_neg q] at h; cases h
        · rw [if_neg q] at h; cases h
      · rw [if_neg q] at h; cases h
    · rw [if_neg q] at h; cases h
  · rw [if_neg q] at h; cases h
theorem cc13 (k : Nat)  (h : (f13 k ).isSome = true) : CC Tryd.prog 13 (args13 ) [] (res13 (v13 k )) (bo13 (v13 k )) := by
  cases e : f13 k  with
  | none => rw [e] at h; cases h
  | some r => rw [show v13 k  = r by simp [v13, e]]; exact of13 k  r e

end
end Go.AM
namespace Go.AM
open Go Go.Proofs
def KK : Nat := 600
theorem f13_t : f13 KK = some true := by kernel_rfl
end Go.AM
namespace Go.AM
open Go Go.Proofs
set_option linter.unusedVariables false
noncomputable section
/-! ### function 23: papermill/papermillref07.Number -/
def K23 (k : Nat) : Calld := ⟨fun g => match g with
  | _ => none, fun g xs _ => match g with
  | _ => none⟩
abbrev R23 : Type := Int × Int
def res23 (r : R23) : AV := .tup [.r (.v (.int .i64 r.1)), .r (.v (.int .i64 r.2))]
def bo23 (r : R23) : List (Nat × Blk) := []
def st23_8 (x0 : ByteArray) (x1 : ByteArray) (x2 : Int) (x3 : Int) : St := ⟨mkS 61 [(0, .r (.v (.string x0))), (4, .r (.v (.string x1))), (5, .r (.v (.int .i64 x2))), (6, .r (.v (.int .i64 x3)))], []⟩
def f23_8 (k : Nat) : Nat → ByteArray → ByteArray → Int → Int → Option R23
  | 0, _, _, _, _ => none
  | j + 1, x0, x1, x2, x3 =>
    bif (decide (x3 < (↑x1.size : Int))) then
      if ((0 : Int) ≤ x3) ∧ (x3 < (↑x1.size : Int)) ∧ (decide (bAt x1 x3 < (48 : Int)) = false → (0 : Int) ≤ x3) ∧ (decide (bAt x1 x3 < (48 : Int)) = false → x3 < (↑x1.size : Int)) then
        bif (decide (bAt x1 x3 < (48 : Int)) || decide (bAt x1 x3 > (57 : Int))) then
          some ((0, 3))
        else
          if ((0 : Int) ≤ x3) ∧ (x3 < (↑x1.size : Int)) then
            f23_8 k j x0 x1 ((if 2000000000000 < IntKind.i64.wrap (IntKind.i64.wrap (10 * x2) + IntKind.i64.wrap (IntKind.u8.wrap (bAt x1 x3 - 48))) then 2000000000000 else IntKind.i64.wrap (IntKind.i64.wrap (10 * x2) + IntKind.i64.wrap (IntKind.u8.wrap (bAt x1 x3 - 48))))) ((IntKind.i64.wrap (x3 + 1)))
          else none
      else none
    else
      bif (decide (x2 > (1000000000000 : Int))) then
        some ((0, 1))
      else
        bif (!x1.toList == x0.toList) then
          some ((IntKind.i64.wrap (0 - x2), 0))
        else
          some ((x2, 0))
def f23 (k : Nat) (s_ : ByteArray) : Option R23 :=
  if ((!s_.toList == (ByteArray.mk #[]).toList) = true → (0 : Int) ≤ (0 : Int)) ∧ ((!s_.toList == (ByteArray.mk #[]).toList) = true → (0 : Int) < (↑s_.size : Int)) then
    bif (!s_.toList == (ByteArray.mk #[]).toList && bAt s_ (0 : Int) == (45 : Int)) then
      if ((0 : Int) ≤ (1 : Int)) ∧ ((1 : Int) ≤ (↑s_.size : Int)) ∧ ((↑s_.size : Int) ≤ (↑s_.size : Int)) then
        if (((s_.extract (Int.toNat (1 : Int)) (↑s_.size : Int).toNat).toList == (ByteArray.mk #[]).toList) = false → (0 : Int) ≤ (0 : Int)) ∧ (((s_.extract (Int.toNat (1 : Int)) (↑s_.size : Int).toNat).toList == (ByteArray.mk #[]).toList) = false → (0 : Int) < (↑ (s_.extract (Int.toNat (1 : Int)) (↑s_.size : Int).toNat).size : Int)) then
          bif ((s_.extract (Int.toNat (1 : Int)) (↑s_.size : Int).toNat).toList == (ByteArray.mk #[]).toList || bAt (s_.extract (Int.toNat (1 : Int)) (↑s_.size : Int).toNat) (0 : Int) == (48 : Int) && (!s_.toList == (ByteArray.mk #[(48 : UInt8)]).toList)) then
            some ((0, 3))
          else
            f23_8 k k s_ ((s_.extract (Int.toNat 1) (↑s_.size : Int).toNat)) 0 0
        else none
      else none
    else
      if ((s_.toList == (ByteArray.mk #[]).toList) = false → (0 : Int) ≤ (0 : Int)) ∧ ((s_.toList == (ByteArray.mk #[]).toList) = false → (0 : Int) < (↑s_.size : Int)) then
        bif (s_.toList == (ByteArray.mk #[]).toList || bAt s_ (0 : Int) == (48 : Int) && (!s_.toList == (ByteArray.mk #[(48 : UInt8)]).toList)) then
          some ((0, 3))
        else
          f23_8 k k s_ s_ 0 0
      else none
  else none
def args23 (s_ : ByteArray) : List AV := [.r (.v (.string s_))]
def v23 (k : Nat) (s_ : ByteArray) : R23 := (f23 k s_).getD (0, 0)
theorem ev23 (k : Nat) : ∀ j, (∀ (x0 : ByteArray) (x1 : ByteArray) (x2 : Int) (x3 : Int) (r : R23), f23_8 k j x0 x1 x2 x3 = some r → Ev Tryd.prog Tryd.f23 0 (placeAt Tryd.f23 8) (st23_8 x0 x1 x2 x3) (res23 r) (bo23 r))
  | 0 => by
    intros; rename_i h; simp [f23_8] at h
  | j + 1 => by
    have ih := ev23 k j
    · intro x0 x1 x2 x3 r h
      rw [f23_8] at h
      refine Ev.tree hm (R := Rt) (K := (K23 k)) (l := []) (C := [(8, [.auto [0, 4, 5, 6] false])]) (E := [.auto [2, 3] true]) (n := 1000) (T := .test ((decide (x3 < (↑x1.size : Int)))) (.need [(0 : Int) ≤ x3, x3 < (↑x1.size : Int), decide (bAt x1 x3 < (48 : Int)) = false → (0 : Int) ≤ x3, decide (bAt x1 x3 < (48 : Int)) = false → x3 < (↑x1.size : Int)] (.test ((decide (bAt x1 x3 < (48 : Int)) || decide (bAt x1 x3 > (57 : Int)))) (.leaf (res23 ((0, 3))) (bo23 ((0, 3)))) (.need [(0 : Int) ≤ x3, x3 < (↑x1.size : Int)] (.cut 8 (placeAt Tryd.f23 8) (st23_8 x0 x1 ((if 2000000000000 < IntKind.i64.wrap (IntKind.i64.wrap (10 * x2) + IntKind.i64.wrap (IntKind.u8.wrap (bAt x1 x3 - 48))) then 2000000000000 else IntKind.i64.wrap (IntKind.i64.wrap (10 * x2) + IntKind.i64.wrap (IntKind.u8.wrap (bAt x1 x3 - 48))))) ((IntKind.i64.wrap (x3 + 1)))))))) (.test ((decide (x2 > (1000000000000 : Int)))) (.leaf (res23 ((0, 1))) (bo23 ((0, 1)))) (.test ((!x1.toList == x0.toList)) (.leaf (res23 ((IntKind.i64.wrap (0 - x2), 0))) (bo23 ((IntKind.i64.wrap (0 - x2), 0)))) (.leaf (res23 ((x2, 0))) (bo23 ((x2, 0))))))) (by kernel_rfl) ?_
      refine ⟨fun c => ?_, fun c => ?_⟩
      · rw [cond_t c] at h
        by_cases q : ((0 : Int) ≤ x3) ∧ (x3 < (↑x1.size : Int)) ∧ (decide (bAt x1 x3 < (48 : Int)) = false → (0 : Int) ≤ x3) ∧ (decide (bAt x1 x3 < (48 : Int)) = false → x3 < (↑x1.size : Int))
        · rw [if_pos q] at h
          refine ⟨(conjC q.1 (conjC q.2.1 (conjC q.2.2.1 (conjC q.2.2.2 conj0)))), ?_⟩
          refine ⟨fun c => ?_, fun c => ?_⟩
          · rw [cond_t c] at h
            cases h; exact ⟨rfl, rfl⟩
          · rw [cond_f c] at h
            by_cases q : ((0 : Int) ≤ x3) ∧ (x3 < (↑x1.size : Int))
            · rw [if_pos q] at h
              refine ⟨(conjC q.1 (conjC q.2 conj0)), ?_⟩
              exact ih x0 x1 ((if 2000000000000 < IntKind.i64.wrap (IntKind.i64.wrap (10 * x2) + IntKind.i64.wrap (IntKind.u8.wrap (bAt x1 x3 - 48))) then 2000000000000 else IntKind.i64.wrap (IntKind.i64.wrap (10 * x2) + IntKind.i64.wrap (IntKind.u8.wrap (bAt x1 x3 - 48))))) ((IntKind.i64.wrap (x3 + 1))) _ h
            · rw [if_neg q] at h; cases h
        · rw [if_neg q] at h; cases h
      · rw [cond_f c] at h
        refine ⟨fun c => ?_, fun c => ?_⟩
        · rw [cond_t c] at h
          cases h; exact ⟨rfl, rfl⟩
        · rw [cond_f c] at h
          refine ⟨fun c => ?_, fun c => ?_⟩
          · rw [cond_t c] at h
            cases h; exact ⟨rfl, rfl⟩
          · rw [cond_f c] at h
            cases h; exact ⟨rfl, rfl⟩
theorem of23 (k : Nat) (s_ : ByteArray) (r : R23) (h : f23 k s_ = some r) : CC Tryd.prog 23 (args23 s_) [] (res23 r) (bo23 r) := by
  refine CC.of (fn := Tryd.f23) (by kernel_rfl) (by kernel_rfl) (by kernel_rfl) (by kernel_rfl) ?_
  unfold f23 at h
  refine Ev.tree hm (R := Rt) (K := (K23 k)) (l := []) (C := [(8, [.auto [0, 4, 5, 6] false])]) (E := [.auto [2, 3] true]) (n := 1000) (T := .need [(!s_.toList == (ByteArray.mk #[]).toList) = true → (0 : Int) ≤ (0 : Int), (!s_.toList == (ByteArray.mk #[]).toList) = true → (0 : Int) < (↑s_.size : Int)] (.test ((!s_.toList == (ByteArray.mk #[]).toList && bAt s_ (0 : Int) == (45 : Int))) (.need [(0 : Int) ≤ (1 : Int), (1 : Int) ≤ (↑s_.size : Int), (↑s_.size : Int) ≤ (↑s_.size : Int)] (.need [((s_.extract (Int.toNat (1 : Int)) (↑s_.size : Int).toNat).toList == (ByteArray.mk #[]).toList) = false → (0 : Int) ≤ (0 : Int), ((s_.extract (Int.toNat (1 : Int)) (↑s_.size : Int).toNat).toList == (ByteArray.mk #[]).toList) = false → (0 : Int) < (↑ (s_.extract (Int.toNat (1 : Int)) (↑s_.size : Int).toNat).size : Int)] (.test (((s_.extract (Int.toNat (1 : Int)) (↑s_.size : Int).toNat).toList == (ByteArray.mk #[]).toList || bAt (s_.extract (Int.toNat (1 : Int)) (↑s_.size : Int).toNat) (0 : Int) == (48 : Int) && (!s_.toList == (ByteArray.mk #[(48 : UInt8)]).toList))) (.leaf (res23 ((0, 3))) (bo23 ((0, 3)))) (.cut 8 (placeAt Tryd.f23 8) (st23_8 s_ ((s_.extract (Int.toNat 1) (↑s_.size : Int).toNat)) 0 0))))) (.need [(s_.toList == (ByteArray.mk #[]).toList) = false → (0 : Int) ≤ (0 : Int), (s_.toList == (ByteArray.mk #[]).toList) = false → (0 : Int) < (↑s_.size : Int)] (.test ((s_.toList == (ByteArray.mk #[]).toList || bAt s_ (0 : Int) == (48 : Int) && (!s_.toList == (ByteArray.mk #[(48 : UInt8)]).toList))) (.leaf (res23 ((0, 3))) (bo23 ((0, 3)))) (.cut 8 (placeAt Tryd.f23 8) (st23_8 s_ s_ 0 0)))))) (by kernel_rfl) ?_
  by_cases q : ((!s_.toList == (ByteArray.mk #[]).toList) = true → (0 : Int) ≤ (0 : Int)) ∧ ((!s_.toList == (ByteArray.mk #[]).toList) = true → (0 : Int) < (↑s_.size : Int))
  · rw [if_pos q] at h
    refine ⟨(conjC q.1 (conjC q.2 conj0)), ?_⟩
    refine ⟨fun c => ?_, fun c => ?_⟩
    · rw [cond_t c] at h
      by_cases q : ((0 : Int) ≤ (1 : Int)) ∧ ((1 : Int) ≤ (↑s_.size : Int)) ∧ ((↑s_.size : Int) ≤ (↑s_.size : Int))
      · rw [if_pos q] at h
        refine ⟨(conjC q.1 (conjC q.2.1 (conjC q.2.2 conj0))), ?_⟩
        by_cases q : (((s_.extract (Int.toNat (1 : Int)) (↑s_.size : Int).toNat).toList == (ByteArray.mk #[]).toList) = false → (0 : Int) ≤ (0 : Int)) ∧ (((s_.extract (Int.toNat (1 : Int)) (↑s_.size : Int).toNat).toList == (ByteArray.mk #[]).toList) = false → (0 : Int) < (↑ (s_.extract (Int.toNat (1 : Int)) (↑s_.size : Int).toNat).size : Int))
        · rw [if_pos q] at h
          refine ⟨(conjC q.1 (conjC q.2 conj0)), ?_⟩
          refine ⟨fun c => ?_, fun c => ?_⟩
          · rw [cond_t c] at h
            cases h; exact ⟨rfl, rfl⟩
          · rw [cond_f c] at h
            exact (ev23 k k) s_ ((s_.extract (Int.toNat 1) (↑s_.size : Int).toNat)) 0 0 _ h
        · rw [if_neg q] at h; cases h
      · rw [if_neg q] at h; cases h
    · rw [cond_f c] at h
      by_cases q : ((s_.toList == (ByteArray.mk #[]).toList) = false → (0 : Int) ≤ (0 : Int)) ∧ ((s_.toList == (ByteArray.mk #[]).toList) = false → (0 : Int) < (↑s_.size : Int))
      · rw [if_pos q] at h
        refine ⟨(conjC q.1 (conjC q.2 conj0)), ?_⟩
        refine ⟨fun c => ?_, fun c => ?_⟩
        · rw [cond_t c] at h
          cases h; exact ⟨rfl, rfl⟩
        · rw [cond_f c] at h
          exact (ev23 k k) s_ s_ 0 0 _ h
      · rw [if_neg q] at h; cases h
  · rw [if_neg q] at h; cases h
theorem cc23 (k : Nat) (s_ : ByteArray) (h : (f23 k s_).isSome = true) : CC Tryd.prog 23 (args23 s_) [] (res23 (v23 k s_)) (bo23 (v23 k s_)) := by
  cases e : f23 k s_ with
  | none => rw [e] at h; cases h
  | some r => rw [show v23 k s_ = r by simp [v23, e]]; exact of23 k s_ r e

end
end Go.AM
namespace Go.AM
open Go Go.Proofs

theorem u8_id {i : Int} (h0 : 0 ≤ i) (h1 : i < 256) : IntKind.u8.wrap i = i := by
  simp [IntKind.wrap, IntKind.bits, IntKind.signed]; omega

theorem tl_data (s : ByteArray) : s.toList = s.data.toList := Lib.toList_data s

theorem loopN (k : Nat) (s d : ByteArray) (neg : Bool) (hneg : (!d.toList == s.toList) = neg) (hd : d.size ≤ 1000) :
    ∀ (j i : Nat) (n nR : Int) (g : Bool), i ≤ d.size → d.size - i < j → 0 ≤ n → n ≤ 1000000000000 → 0 ≤ nR → nR ≤ 2000000000000 → (g = false → n = nR) → (g = true → 1000000000000 < nR) →
      ∃ r, f22_6 k j d neg n g (d.size : Int) (i : Int) = some r ∧ f23_8 k j s d nR (i : Int) = some r
  | 0, i, n, nR, g, _, h, _, _, _, _, _, _ => by omega
  | j + 1, i, n, nR, g, hi, hj, h0, h1, h2, h3, h4, h5 => by
    unfold f22_6 f23_8
    by_cases hlt : i < d.size
    · have e1 : decide ((i : Int) < (d.size : Int)) = true := decide_eq_true (by omega)
      rw [e1]
      simp only [cond_true]
      rw [if_pos ⟨by omega, by omega⟩, if_pos ⟨by omega, by omega, fun _ => by omega, fun _ => by omega⟩]
      cases hc : (decide (bAt d (i : Int) < (48 : Int)) || decide (bAt d (i : Int) > (57 : Int)))
      · simp only [Bool.or_eq_false_iff, decide_eq_false_iff_not] at hc
        simp only [cond_false]
        rw [if_pos ⟨by omega, by omega⟩]
        have hb : IntKind.u8.wrap (bAt d (i : Int) - 48) = bAt d (i : Int) - 48 := u8_id (by omega) (by omega)
        rw [hb, wrap_id (i := bAt d (i : Int) - 48) (by omega) (by omega), wrap_id (i := 10 * n) (by omega) (by omega), wrap_id (i := 10 * nR) (by omega) (by omega), wrap_id (i := 10 * n + (bAt d (i : Int) - 48)) (by omega) (by omega), wrap_id (i := 10 * nR + (bAt d (i : Int) - 48)) (by omega) (by omega), wrap_id (i := (i : Int) + 1) (by omega) (by omega)]
        rw [show (i : Int) + 1 = ((i + 1 : Nat) : Int) by omega]
        have hm : ∃ m, (if 2000000000000 < 10 * nR + (bAt d (i : Int) - 48) then 2000000000000 else 10 * nR + (bAt d (i : Int) - 48)) = m ∧ 0 ≤ m ∧ m ≤ 2000000000000 ∧ (10 * nR + (bAt d (i : Int) - 48) ≤ 2000000000000 → m = 10 * nR + (bAt d (i : Int) - 48)) ∧ (2000000000000 < 10 * nR + (bAt d (i : Int) - 48) → m = 2000000000000) := by
          refine ⟨_, rfl, ?_⟩
          split <;> omega
        obtain ⟨m, hm, m0, m1, m2, m3⟩ := hm
        rw [hm]
        cases hg : decide (10 * n + (bAt d (i : Int) - 48) > 1000000000000)
        · simp only [decide_eq_false_iff_not] at hg
          simp only [cond_false]
          exact loopN k s d neg hneg hd j (i + 1) _ _ g (by omega) (by omega) (by omega) (by omega) m0 m1 (fun e => by have := h4 e; omega) (fun e => by have := h5 e; omega)
        · simp only [decide_eq_true_eq] at hg
          simp only [cond_true]
          exact loopN k s d neg hneg hd j (i + 1) _ _ true (by omega) (by omega) (by omega) (by omega) m0 m1 (fun e => by cases e) (fun e => by
            cases g with
            | false => have := h4 rfl; omega
            | true => have := h5 rfl; omega)
      · simp only [cond_true]
        exact ⟨_, rfl, rfl⟩
    · have e1 : decide ((i : Int) < (d.size : Int)) = false := decide_eq_false (by omega)
      rw [e1]
      simp only [cond_false]
      cases g with
      | true =>
        have := h5 rfl
        rw [decide_eq_true (by omega : nR > 1000000000000)]
        exact ⟨_, rfl, rfl⟩
      | false =>
        have := h4 rfl
        subst this
        rw [decide_eq_false (by omega : ¬ n > 1000000000000), hneg]
        cases neg <;> exact ⟨_, rfl, rfl⟩
end Go.AM
namespace Go.AM
open Go Go.Proofs
def ng (s : ByteArray) : Bool := (!s.toList == (ByteArray.mk #[]).toList && bAt s (0 : Int) == (45 : Int))
theorem u45 (b : UInt8) : (b == 45) = (((b.toNat : Nat) : Int) == 45) := by
  rw [Bool.eq_iff_iff, beq_iff_eq, beq_iff_eq]
  constructor
  · intro h; subst h; rfl
  · intro h
    apply UInt8.toNat_inj.1
    have : b.toNat = 45 := by omega
    rw [this]; rfl
theorem neg_eq (s : ByteArray) : (decide ((↑s.size : Int) ≥ (↑(ByteArray.mk #[45]).size : Int)) && (s.extract (Int.toNat 0) (↑(ByteArray.mk #[45]).size : Int).toNat).toList == (ByteArray.mk #[45]).toList) = ng s := by
  unfold ng
  rw [tl_data, tl_data, tl_data, tl_data]
  obtain ⟨⟨l⟩⟩ := s
  cases l with
  | nil => rfl
  | cons b l =>
    have h : (⟨⟨b :: l⟩⟩ : ByteArray).size = l.length + 1 := by simp [ByteArray.size]
    have h2 : ((⟨⟨b :: l⟩⟩ : ByteArray).extract 0 1).data.toList = [b] := by
      rw [ByteArray.data_extract]; simp
    have h3 : (ByteArray.mk #[45]).size = 1 := rfl
    rw [h3, h]
    rw [show ((1 : Nat) : Int).toNat = 1 from rfl, show Int.toNat 0 = 0 from rfl, h2]
    rw [decide_eq_true (by omega)]
    have h4 : bAt ⟨⟨b :: l⟩⟩ 0 = (b.toNat : Int) := rfl
    rw [h4, ← u45]
    simp
theorem if_some {α β : Type} (x : α) (a b : β) : (if (some x).isSome = true then a else b) = a := rfl
theorem f37_s (k : Nat) (s : ByteArray) : f37 k s (ByteArray.mk #[45]) = some (bif ng s then (s.extract 1 s.size, true) else (s, false)) := by
  have e40 : f40 k s (ByteArray.mk #[45]) = some (ng s) := by
    unfold f40
    rw [neg_eq, if_pos ⟨fun _ => by omega, fun _ => by omega, fun h => by simpa using h⟩]
  have v40e : v40 k s (ByteArray.mk #[45]) = ng s := by unfold v40; rw [e40]; rfl
  have e52 : f52 k s (ByteArray.mk #[45]) = some (bif ng s then (s.extract 1 s.size, true) else (s, false)) := by
    unfold f52
    rw [e40, v40e, if_some]
    cases hn : ng s
    · rfl
    · have hs : 1 ≤ s.size := by
        rw [← neg_eq] at hn
        simp only [Bool.and_eq_true, decide_eq_true_eq] at hn
        have h3 : (ByteArray.mk #[45]).size = 1 := rfl
        rw [h3] at hn; omega
      have h3 : (ByteArray.mk #[45]).size = 1 := rfl
      simp only [h3, Bool.not_true, cond_false, cond_true]
      rw [if_pos ⟨by omega, by omega, by omega⟩]
      rfl
  have v52e : v52 k s (ByteArray.mk #[45]) = (bif ng s then (s.extract 1 s.size, true) else (s, false)) := by unfold v52; rw [e52]; rfl
  unfold f37
  rw [e52, v52e, if_some]
end Go.AM
namespace Go.AM
open Go Go.Proofs Go.Lib

/-! ### replacing one byte -/
def sub1 (c : UInt8) (new : List UInt8) (l : List UInt8) : List UInt8 := l.flatMap fun b => if b = c then new else [b]
theorem pre1 (c b : UInt8) (l : List UInt8) : [c].isPrefixOf (b :: l) = (c == b) := by simp [List.isPrefixOf]
theorem idx1 (c b : UInt8) (l : List UInt8) : index (b :: l) [c] = if (c == b) = true then 0 else if (index l [c] == -1) = true then -1 else index l [c] + 1 := by
  rw [index, pre1]
theorem rep1 (c : UInt8) (new : List UInt8) : ∀ l : List UInt8, replaceK [c] new (count l [c]) l = sub1 c new l
  | [] => by
    rw [count_miss (s := []) (sub := [c]) (by simp [index])]; rfl
  | b :: l => by
    have ih := rep1 c new l
    have hb := idx1 c b l
    by_cases e : c = b
    · subst e
      rw [if_pos (by simp)] at hb
      have h := count_hit (s := c :: l) (sub := [c]) (i := 0) (by simp) (by simpa using hb)
      rw [h, Nat.add_comm, replaceK_hit _ _ _ _ 0 (by simpa using hb)]
      simp only [List.take_zero, List.nil_append, Nat.zero_add, List.length_singleton, List.drop_succ_cons, List.drop_zero] at ih ⊢
      rw [ih]; simp [sub1]
    · rw [if_neg (by simpa using e)] at hb
      have hs : sub1 c new (b :: l) = b :: sub1 c new l := by
        rw [sub1, List.flatMap_cons, if_neg (fun h => e h.symm)]; rfl
      by_cases hi : index l [c] = -1
      · rw [if_pos (by simpa using hi)] at hb
        rw [count_miss hi] at ih
        rw [count_miss hb, hs, ← ih]; rfl
      · rw [if_neg (by simpa using hi)] at hb
        have hge := index_ge l [c]
        obtain ⟨i, hii⟩ : ∃ i : Nat, index l [c] = i := ⟨(index l [c]).toNat, by omega⟩
        have h1 := count_hit (s := l) (sub := [c]) (i := i) (by simp) hii
        have h2 := count_hit (s := b :: l) (sub := [c]) (i := i + 1) (by simp) (by rw [hb, hii]; simp)
        rw [h1, Nat.add_comm, replaceK_hit _ _ _ _ i hii] at ih
        rw [h2, Nat.add_comm 1, replaceK_hit _ _ _ _ (i + 1) (by rw [hb, hii]; simp), hs, ← ih]
        simp
theorem replaceAll1 (c : UInt8) (new l : List UInt8) (h : [c] ≠ new) : replaceAll l [c] new = sub1 c new l := by
  rw [← rep1]
  unfold replaceAll replace
  rw [if_neg (by simpa using h)]
  unfold replaceNum
  rw [if_pos (by omega)]

/-! ### one byte of several -/
theorem indexAny_any (chars : List UInt8) : ∀ l : List UInt8, containsAny l chars = l.any fun b => chars.contains b
  | [] => rfl
  | b :: l => by
    have ih := indexAny_any chars l
    have hge := indexAny_ge chars l
    unfold containsAny at ih ⊢
    rw [indexAny, List.any_cons]
    cases hc : chars.contains b
    · rw [Bool.false_or, ← ih, if_neg (by simp)]
      by_cases hi : indexAny l chars = -1
      · rw [if_pos (by simpa using hi), hi]
      · rw [if_neg (by simpa using hi)]
        rw [decide_eq_true (by omega), decide_eq_true (by omega)]
    · rw [if_pos rfl]; rfl
end Go.AM
namespace Go.AM
open Go Go.Proofs
set_option linter.unusedVariables false
noncomputable section
/-! ### function 49: papermill/papermillref07.has -/
def K49 (k : Nat) : Calld := ⟨fun g => match g with
  | _ => none, fun g xs _ => match g with
  | _ => none⟩
abbrev R49 : Type := Bool
def res49 (r : R49) : AV := .r (.v (.bool r))
def bo49 (r : R49) : List (Nat × Blk) := []
def st49_2 (x0 : ByteArray) (x1 : Int) (x2 : Int) : St := ⟨mkS 17 [(0, .r (.v (.string x0))), (1, .r (.v (.int .u8 x1))), (5, .r (.v (.int .i64 x2)))], []⟩
def f49_2 (k : Nat) : Nat → ByteArray → Int → Int → Option R49
  | 0, _, _, _ => none
  | j + 1, x0, x1, x2 =>
    bif (decide (x2 < (↑x0.size : Int))) then
      if ((0 : Int) ≤ x2) ∧ (x2 < (↑x0.size : Int)) then
        bif (bAt x0 x2 == x1) then
          some true
        else
          f49_2 k j x0 x1 ((IntKind.i64.wrap (x2 + 1)))
      else none
    else
      some false
def f49 (k : Nat) (s_ : ByteArray) (c_ : Int) : Option R49 :=
  f49_2 k k s_ c_ 0
def args49 (s_ : ByteArray) (c_ : Int) : List AV := [.r (.v (.string s_)), .r (.v (.int .u8 c_))]
def v49 (k : Nat) (s_ : ByteArray) (c_ : Int) : R49 := (f49 k s_ c_).getD false
theorem ev49 (k : Nat) : ∀ j, (∀ (x0 : ByteArray) (x1 : Int) (x2 : Int) (r : R49), f49_2 k j x0 x1 x2 = some r → Ev Tryd.prog Tryd.f49 0 (placeAt Tryd.f49 2) (st49_2 x0 x1 x2) (res49 r) (bo49 r))
  | 0 => by
    intros; rename_i h; simp [f49_2] at h
  | j + 1 => by
    have ih := ev49 k j
    · intro x0 x1 x2 r h
      rw [f49_2] at h
      refine Ev.tree hm (R := Rt) (K := (K49 k)) (l := []) (C := [(2, [.auto [0, 1, 5] false])]) (E := [.auto [4] true]) (n := 1000) (T := .test ((decide (x2 < (↑x0.size : Int)))) (.need [(0 : Int) ≤ x2, x2 < (↑x0.size : Int)] (.test ((bAt x0 x2 == x1)) (.leaf (res49 true) (bo49 true)) (.cut 2 (placeAt Tryd.f49 2) (st49_2 x0 x1 ((IntKind.i64.wrap (x2 + 1))))))) (.leaf (res49 false) (bo49 false))) (by kernel_rfl) ?_
      refine ⟨fun c => ?_, fun c => ?_⟩
      · rw [cond_t c] at h
        by_cases q : ((0 : Int) ≤ x2) ∧ (x2 < (↑x0.size : Int))
        · rw [if_pos q] at h
          refine ⟨(conjC q.1 (conjC q.2 conj0)), ?_⟩
          refine ⟨fun c => ?_, fun c => ?_⟩
          · rw [cond_t c] at h
            cases h; exact ⟨rfl, rfl⟩
          · rw [cond_f c] at h
            exact ih x0 x1 ((IntKind.i64.wrap (x2 + 1))) _ h
        · rw [if_neg q] at h; cases h
      · rw [cond_f c] at h
        cases h; exact ⟨rfl, rfl⟩
theorem of49 (k : Nat) (s_ : ByteArray) (c_ : Int) (r : R49) (h : f49 k s_ c_ = some r) : CC Tryd.prog 49 (args49 s_ c_) [] (res49 r) (bo49 r) := by
  refine CC.of (fn := Tryd.f49) (by kernel_rfl) (by kernel_rfl) (by kernel_rfl) (by kernel_rfl) ?_
  unfold f49 at h
  refine Ev.tree hm (R := Rt) (K := (K49 k)) (l := []) (C := [(2, [.auto [0, 1, 5] false])]) (E := [.auto [4] true]) (n := 1000) (T := .cut 2 (placeAt Tryd.f49 2) (st49_2 s_ c_ 0)) (by kernel_rfl) ?_
  exact (ev49 k k) s_ c_ 0 _ h
theorem cc49 (k : Nat) (s_ : ByteArray) (c_ : Int) (h : (f49 k s_ c_).isSome = true) : CC Tryd.prog 49 (args49 s_ c_) [] (res49 (v49 k s_ c_)) (bo49 (v49 k s_ c_)) := by
  cases e : f49 k s_ c_ with
  | none => rw [e] at h; cases h
  | some r => rw [show v49 k s_ c_ = r by simp [v49, e]]; exact of49 k s_ c_ r e

end
end Go.AM
namespace Go.AM
open Go Go.Proofs
set_option linter.unusedVariables false
noncomputable section
/-! ### function 32: papermill/papermillref07.form -/
def K32 (k : Nat) : Calld := ⟨fun g => match g with
  | 49 => some [false, false]
  | _ => none, fun g xs _ => match g with
  | 49 => match xs with
    | [.r (.v (.string s_)), .r (.v (.int .u8 c_))] => some (res49 (v49 k s_ c_), bo49 (v49 k s_ c_))
    | _ => none
  | _ => none⟩
abbrev R32 : Type := ByteArray
def res32 (r : R32) : AV := .r (.v (.string r))
def bo32 (r : R32) : List (Nat × Blk) := []
def st32_5 (x0 : ByteArray) (x1 : ByteArray) (x2 : Int) : St := ⟨mkS 50 [(0, .r (.v (.string x0))), (3, .r (.v (.string x1))), (4, .r (.v (.int .i64 x2)))], []⟩
def f32_5 (k : Nat) : Nat → ByteArray → ByteArray → Int → Option R32
  | 0, _, _, _ => none
  | j + 1, x0, x1, x2 =>
    bif (decide (x2 < (↑x0.size : Int))) then
      if ((0 : Int) ≤ x2) ∧ (x2 < (↑x0.size : Int)) ∧ ((bAt x0 x2 == (34 : Int)) = false → (0 : Int) ≤ x2) ∧ ((bAt x0 x2 == (34 : Int)) = false → x2 < (↑x0.size : Int)) then
        bif (bAt x0 x2 == (34 : Int) || bAt x0 x2 == (92 : Int)) then
          if ((↑ (x1.size + (ByteArray.mk #[(92 : UInt8)]).size) : Int) ≤ IntKind.i64.max) then
            if ((0 : Int) ≤ x2) ∧ (x2 ≤ IntKind.i64.wrap (x2 + (1 : Int))) ∧ (IntKind.i64.wrap (x2 + (1 : Int)) ≤ (↑x0.size : Int)) ∧ ((↑ ((x1 ++ (ByteArray.mk #[(92 : UInt8)])).size + (x0.extract x2.toNat (IntKind.i64.wrap (x2 + (1 : Int))).toNat).size) : Int) ≤ IntKind.i64.max) then
              f32_5 k j x0 ((x1 ++ (ByteArray.mk #[92]) ++ x0.extract x2.toNat (IntKind.i64.wrap (x2 + 1)).toNat)) ((IntKind.i64.wrap (x2 + 1)))
            else none
          else none
        else
          if ((0 : Int) ≤ x2) ∧ (x2 ≤ IntKind.i64.wrap (x2 + (1 : Int))) ∧ (IntKind.i64.wrap (x2 + (1 : Int)) ≤ (↑x0.size : Int)) ∧ ((↑ (x1.size + (x0.extract x2.toNat (IntKind.i64.wrap (x2 + (1 : Int))).toNat).size) : Int) ≤ IntKind.i64.max) then
            f32_5 k j x0 ((x1 ++ x0.extract x2.toNat (IntKind.i64.wrap (x2 + 1)).toNat)) ((IntKind.i64.wrap (x2 + 1)))
          else none
      else none
    else
      if ((↑ (x1.size + (ByteArray.mk #[(34 : UInt8)]).size) : Int) ≤ IntKind.i64.max) then
        some (x1 ++ (ByteArray.mk #[34]))
      else none
def f32 (k : Nat) (s_ : ByteArray) : Option R32 :=
  bif (!s_.toList == (ByteArray.mk #[]).toList) then
    bif (true && (!v49 k s_ (32 : Int))) then
      bif (true && (!v49 k s_ (34 : Int))) then
        if ((!s_.toList == (ByteArray.mk #[]).toList) = true) ∧ ((f49 k s_ 32).isSome = true) ∧ ((true && (!v49 k s_ (32 : Int))) = true) ∧ ((f49 k s_ 34).isSome = true) ∧ ((true && (!v49 k s_ (34 : Int))) = true) ∧ ((f49 k s_ 92).isSome = true) then
          bif (true && (!v49 k s_ (92 : Int))) then
            some s_
          else
            f32_5 k k s_ ((ByteArray.mk #[34])) 0
        else none
      else
        if ((!s_.toList == (ByteArray.mk #[]).toList) = true) ∧ ((f49 k s_ 32).isSome = true) ∧ ((true && (!v49 k s_ (32 : Int))) = true) ∧ ((f49 k s_ 34).isSome = true) ∧ ((true && (!v49 k s_ (34 : Int))) = false) then
          f32_5 k k s_ ((ByteArray.mk #[34])) 0
        else none
    else
      if ((!s_.toList == (ByteArray.mk #[]).toList) = true) ∧ ((f49 k s_ 32).isSome = true) ∧ ((true && (!v49 k s_ (32 : Int))) = false) ∧ (false = false) then
        f32_5 k k s_ ((ByteArray.mk #[34])) 0
      else none
  else
    if ((!s_.toList == (ByteArray.mk #[]).toList) = false) ∧ (false = false) ∧ (false = false) then
      f32_5 k k s_ ((ByteArray.mk #[34])) 0
    else none
def args32 (s_ : ByteArray) : List AV := [.r (.v (.string s_))]
def v32 (k : Nat) (s_ : ByteArray) : R32 := (f32 k s_).getD ByteArray.empty
theorem ev32 (k : Nat) : ∀ j, (∀ (x0 : ByteArray) (x1 : ByteArray) (x2 : Int) (r : R32), f32_5 k j x0 x1 x2 = some r → Ev Tryd.prog Tryd.f32 0 (placeAt Tryd.f32 5) (st32_5 x0 x1 x2) (res32 r) (bo32 r))
  | 0 => by
    intros; rename_i h; simp [f32_5] at h
  | j + 1 => by
    have ih := ev32 k j
    · intro x0 x1 x2 r h
      rw [f32_5] at h
      refine Ev.tree hm (R := Rt) (K := (K32 k)) (l := []) (C := [(5, [.auto [0, 3, 4] false])]) (E := [.auto [2] true]) (n := 1000) (T := .test ((decide (x2 < (↑x0.size : Int)))) (.need [(0 : Int) ≤ x2, x2 < (↑x0.size : Int), (bAt x0 x2 == (34 : Int)) = false → (0 : Int) ≤ x2, (bAt x0 x2 == (34 : Int)) = false → x2 < (↑x0.size : Int)] (.test ((bAt x0 x2 == (34 : Int) || bAt x0 x2 == (92 : Int))) (.need [(↑ (x1.size + (ByteArray.mk #[(92 : UInt8)]).size) : Int) ≤ IntKind.i64.max] (.need [(0 : Int) ≤ x2, x2 ≤ IntKind.i64.wrap (x2 + (1 : Int)), IntKind.i64.wrap (x2 + (1 : Int)) ≤ (↑x0.size : Int), (↑ ((x1 ++ (ByteArray.mk #[(92 : UInt8)])).size + (x0.extract x2.toNat (IntKind.i64.wrap (x2 + (1 : Int))).toNat).size) : Int) ≤ IntKind.i64.max] (.cut 5 (placeAt Tryd.f32 5) (st32_5 x0 ((x1 ++ (ByteArray.mk #[92]) ++ x0.extract x2.toNat (IntKind.i64.wrap (x2 + 1)).toNat)) ((IntKind.i64.wrap (x2 + 1))))))) (.need [(0 : Int) ≤ x2, x2 ≤ IntKind.i64.wrap (x2 + (1 : Int)), IntKind.i64.wrap (x2 + (1 : Int)) ≤ (↑x0.size : Int), (↑ (x1.size + (x0.extract x2.toNat (IntKind.i64.wrap (x2 + (1 : Int))).toNat).size) : Int) ≤ IntKind.i64.max] (.cut 5 (placeAt Tryd.f32 5) (st32_5 x0 ((x1 ++ x0.extract x2.toNat (IntKind.i64.wrap (x2 + 1)).toNat)) ((IntKind.i64.wrap (x2 + 1)))))))) (.need [(↑ (x1.size + (ByteArray.mk #[(34 : UInt8)]).size) : Int) ≤ IntKind.i64.max] (.leaf (res32 (x1 ++ (ByteArray.mk #[34]))) (bo32 (x1 ++ (ByteArray.mk #[34])))))) (by kernel_rfl) ?_
      refine ⟨fun c => ?_, fun c => ?_⟩
      · rw [cond_t c] at h
        by_cases q : ((0 : Int) ≤ x2) ∧ (x2 < (↑x0.size : Int)) ∧ ((bAt x0 x2 == (34 : Int)) = false → (0 : Int) ≤ x2) ∧ ((bAt x0 x2 == (34 : Int)) = false → x2 < (↑x0.size : Int))
        · rw [if_pos q] at h
          refine ⟨(conjC q.1 (conjC q.2.1 (conjC q.2.2.1 (conjC q.2.2.2 conj0)))), ?_⟩
          refine ⟨fun c => ?_, fun c => ?_⟩
          · rw [cond_t c] at h
            by_cases q : ((↑ (x1.size + (ByteArray.mk #[(92 : UInt8)]).size) : Int) ≤ IntKind.i64.max)
            · rw [if_pos q] at h
              refine ⟨(conjC q conj0), ?_⟩
              by_cases q : ((0 : Int) ≤ x2) ∧ (x2 ≤ IntKind.i64.wrap (x2 + (1 : Int))) ∧ (IntKind.i64.wrap (x2 + (1 : Int)) ≤ (↑x0.size : Int)) ∧ ((↑ ((x1 ++ (ByteArray.mk #[(92 : UInt8)])).size + (x0.extract x2.toNat (IntKind.i64.wrap (x2 + (1 : Int))).toNat).size) : Int) ≤ IntKind.i64.max)
              · rw [if_pos q] at h
                refine ⟨(conjC q.1 (conjC q.2.1 (conjC q.2.2.1 (conjC q.2.2.2 conj0)))), ?_⟩
                exact ih x0 ((x1 ++ (ByteArray.mk #[92]) ++ x0.extract x2.toNat (IntKind.i64.wrap (x2 + 1)).toNat)) ((IntKind.i64.wrap (x2 + 1))) _ h
              · rw [if_neg q] at h; cases h
            · rw [if_neg q] at h; cases h
          · rw [cond_f c] at h
            by_cases q : ((0 : Int) ≤ x2) ∧ (x2 ≤ IntKind.i64.wrap (x2 + (1 : Int))) ∧ (IntKind.i64.wrap (x2 + (1 : Int)) ≤ (↑x0.size : Int)) ∧ ((↑ (x1.size + (x0.extract x2.toNat (IntKind.i64.wrap (x2 + (1 : Int))).toNat).size) : Int) ≤ IntKind.i64.max)
            · rw [if_pos q] at h
              refine ⟨(conjC q.1 (conjC q.2.1 (conjC q.2.2.1 (conjC q.2.2.2 conj0)))), ?_⟩
              exact ih x0 ((x1 ++ x0.extract x2.toNat (IntKind.i64.wrap (x2 + 1)).toNat)) ((IntKind.i64.wrap (x2 + 1))) _ h
            · rw [if_neg q] at h; cases h
        · rw [if_neg q] at h; cases h
      · rw [cond_f c] at h
        by_cases q : ((↑ (x1.size + (ByteArray.mk #[(34 : UInt8)]).size) : Int) ≤ IntKind.i64.max)
        · rw [if_pos q] at h
          refine ⟨(conjC q conj0), ?_⟩
          cases h; exact ⟨rfl, rfl⟩
        · rw [if_neg q] at h; cases h
theorem of32 (k : Nat) (s_ : ByteArray) (r : R32) (h : f32 k s_ = some r) : CC Tryd.prog 32 (args32 s_) [] (res32 r) (bo32 r) := by
  refine CC.of (fn := Tryd.f32) (by kernel_rfl) (by kernel_rfl) (by kernel_rfl) (by kernel_rfl) ?_
  unfold f32 at h
  refine Ev.tree hm (R := Rt) (K := (K32 k)) (l := []) (C := [(5, [.auto [0, 3, 4] false])]) (E := [.auto [2] true]) (n := 1000) (T := .test ((!s_.toList == (ByteArray.mk #[]).toList)) (.test ((true && (!v49 k s_ (32 : Int)))) (.test ((true && (!v49 k s_ (34 : Int)))) (.need [(!s_.toList == (ByteArray.mk #[]).toList) = true, CC Tryd.prog 49 (args49 s_ 32) [] (res49 (v49 k s_ 32)) (bo49 (v49 k s_ 32)), (true && (!v49 k s_ (32 : Int))) = true, CC Tryd.prog 49 (args49 s_ 34) [] (res49 (v49 k s_ 34)) (bo49 (v49 k s_ 34)), (true && (!v49 k s_ (34 : Int))) = true, CC Tryd.prog 49 (args49 s_ 92) [] (res49 (v49 k s_ 92)) (bo49 (v49 k s_ 92))] (.test ((true && (!v49 k s_ (92 : Int)))) (.leaf (res32 s_) (bo32 s_)) (.cut 5 (placeAt Tryd.f32 5) (st32_5 s_ ((ByteArray.mk #[34])) 0)))) (.need [(!s_.toList == (ByteArray.mk #[]).toList) = true, CC Tryd.prog 49 (args49 s_ 32) [] (res49 (v49 k s_ 32)) (bo49 (v49 k s_ 32)), (true && (!v49 k s_ (32 : Int))) = true, CC Tryd.prog 49 (args49 s_ 34) [] (res49 (v49 k s_ 34)) (bo49 (v49 k s_ 34)), (true && (!v49 k s_ (34 : Int))) = false] (.test (false) (.leaf (res32 s_) (bo32 s_)) (.cut 5 (placeAt Tryd.f32 5) (st32_5 s_ ((ByteArray.mk #[34])) 0))))) (.test (false) (.need [(!s_.toList == (ByteArray.mk #[]).toList) = true, CC Tryd.prog 49 (args49 s_ 32) [] (res49 (v49 k s_ 32)) (bo49 (v49 k s_ 32)), (true && (!v49 k s_ (32 : Int))) = false, false = true, CC Tryd.prog 49 (args49 s_ 92) [] (res49 (v49 k s_ 92)) (bo49 (v49 k s_ 92))] (.test ((true && (!v49 k s_ (92 : Int)))) (.leaf (res32 s_) (bo32 s_)) (.cut 5 (placeAt Tryd.f32 5) (st32_5 s_ ((ByteArray.mk #[34])) 0)))) (.need [(!s_.toList == (ByteArray.mk #[]).toList) = true, CC Tryd.prog 49 (args49 s_ 32) [] (res49 (v49 k s_ 32)) (bo49 (v49 k s_ 32)), (true && (!v49 k s_ (32 : Int))) = false, false = false] (.test (false) (.leaf (res32 s_) (bo32 s_)) (.cut 5 (placeAt Tryd.f32 5) (st32_5 s_ ((ByteArray.mk #[34])) 0)))))) (.test (false) (.test ((true && (!v49 k s_ (34 : Int)))) (.need [(!s_.toList == (ByteArray.mk #[]).toList) = false, false = true, CC Tryd.prog 49 (args49 s_ 34) [] (res49 (v49 k s_ 34)) (bo49 (v49 k s_ 34)), (true && (!v49 k s_ (34 : Int))) = true, CC Tryd.prog 49 (args49 s_ 92) [] (res49 (v49 k s_ 92)) (bo49 (v49 k s_ 92))] (.test ((true && (!v49 k s_ (92 : Int)))) (.leaf (res32 s_) (bo32 s_)) (.cut 5 (placeAt Tryd.f32 5) (st32_5 s_ ((ByteArray.mk #[34])) 0)))) (.need [(!s_.toList == (ByteArray.mk #[]).toList) = false, false = true, CC Tryd.prog 49 (args49 s_ 34) [] (res49 (v49 k s_ 34)) (bo49 (v49 k s_ 34)), (true && (!v49 k s_ (34 : Int))) = false] (.test (false) (.leaf (res32 s_) (bo32 s_)) (.cut 5 (placeAt Tryd.f32 5) (st32_5 s_ ((ByteArray.mk #[34])) 0))))) (.test (false) (.need [(!s_.toList == (ByteArray.mk #[]).toList) = false, false = false, false = true, CC Tryd.prog 49 (args49 s_ 92) [] (res49 (v49 k s_ 92)) (bo49 (v49 k s_ 92))] (.test ((true && (!v49 k s_ (92 : Int)))) (.leaf (res32 s_) (bo32 s_)) (.cut 5 (placeAt Tryd.f32 5) (st32_5 s_ ((ByteArray.mk #[34])) 0)))) (.need [(!s_.toList == (ByteArray.mk #[]).toList) = false, false = false, false = false] (.test (false) (.leaf (res32 s_) (bo32 s_)) (.cut 5 (placeAt Tryd.f32 5) (st32_5 s_ ((ByteArray.mk #[34])) 0))))))) (by kernel_rfl) ?_
  refine ⟨fun c => ?_, fun c => ?_⟩
  · rw [cond_t c] at h
    refine ⟨fun c => ?_, fun c => ?_⟩
    · rw [cond_t c] at h
      refine ⟨fun c => ?_, fun c => ?_⟩
      · rw [cond_t c] at h
        by_cases q : ((!s_.toList == (ByteArray.mk #[]).toList) = true) ∧ ((f49 k s_ 32).isSome = true) ∧ ((true && (!v49 k s_ (32 : Int))) = true) ∧ ((f49 k s_ 34).isSome = true) ∧ ((true && (!v49 k s_ (34 : Int))) = true) ∧ ((f49 k s_ 92).isSome = true)
        · rw [if_pos q] at h
          refine ⟨(conjC q.1 (conjC (cc49 k s_ 32 q.2.1) (conjC q.2.2.1 (conjC (cc49 k s_ 34 q.2.2.2.1) (conjC q.2.2.2.2.1 (conjC (cc49 k s_ 92 q.2.2.2.2.2) conj0)))))), ?_⟩
          refine ⟨fun c => ?_, fun c => ?_⟩
          · rw [cond_t c] at h
            cases h; exact ⟨rfl, rfl⟩
          · rw [cond_f c] at h
            exact (ev32 k k) s_ ((ByteArray.mk #[34])) 0 _ h
        · rw [if_neg q] at h; cases h
      · rw [cond_f c] at h
        by_cases q : ((!s_.toList == (ByteArray.mk #[]).toList) = true) ∧ ((f49 k s_ 32).isSome = true) ∧ ((true && (!v49 k s_ (32 : Int))) = true) ∧ ((f49 k s_ 34).isSome = true) ∧ ((true && (!v49 k s_ (34 : Int))) = false)
        · rw [if_pos q] at h
          refine ⟨(conjC q.1 (conjC (cc49 k s_ 32 q.2.1) (conjC q.2.2.1 (conjC (cc49 k s_ 34 q.2.2.2.1) (conjC q.2.2.2.2 conj0))))), ?_⟩
          refine ⟨fun c => ?_, fun c => ?_⟩
          · cases c
          exact (ev32 k k) s_ ((ByteArray.mk #[34])) 0 _ h
        · rw [if_neg q] at h; cases h
    · rw [cond_f c] at h
      refine ⟨fun c => ?_, fun c => ?_⟩
      · cases c
      by_cases q : ((!s_.toList == (ByteArray.mk #[]).toList) = true) ∧ ((f49 k s_ 32).isSome = true) ∧ ((true && (!v49 k s_ (32 : Int))) = false) ∧ (false = false)
      · rw [if_pos q] at h
        refine ⟨(conjC q.1 (conjC (cc49 k s_ 32 q.2.1) (conjC q.2.2.1 (conjC q.2.2.2 conj0)))), ?_⟩
        refine ⟨fun c => ?_, fun c => ?_⟩
        · cases c
        exact (ev32 k k) s_ ((ByteArray.mk #[34])) 0 _ h
      · rw [if_neg q] at h; cases h
  · rw [cond_f c] at h
    refine ⟨fun c => ?_, fun c => ?_⟩
    · cases c
    refine ⟨fun c => ?_, fun c => ?_⟩
    · cases c
    by_cases q : ((!s_.toList == (ByteArray.mk #[]).toList) = false) ∧ (false = false) ∧ (false = false)
    · rw [if_pos q] at h
      refine ⟨(conjC q.1 (conjC q.2.1 (conjC q.2.2 conj0))), ?_⟩
      refine ⟨fun c => ?_, fun c => ?_⟩
      · cases c
      exact (ev32 k k) s_ ((ByteArray.mk #[34])) 0 _ h
    · rw [if_neg q] at h; cases h
theorem cc32 (k : Nat) (s_ : ByteArray) (h : (f32 k s_).isSome = true) : CC Tryd.prog 32 (args32 s_) [] (res32 (v32 k s_)) (bo32 (v32 k s_)) := by
  cases e : f32 k s_ with
  | none => rw [e] at h; cases h
  | some r => rw [show v32 k s_ = r by simp [v32, e]]; exact of32 k s_ r e

end
end Go.AM
namespace Go.AM
open Go Go.Proofs Go.Lib
attribute [local irreducible] KK

def okB (b : UInt8) : Bool := decide (32 ≤ b.toNat) && decide (b.toNat ≤ 126)
def chk (s : ByteArray) : Int := if 256 < s.size then 8 else if s.data.toList.all okB = true then 0 else 3
def qt (l : List UInt8) : Bool := l.isEmpty || l.any fun b => [32, 34, 92].contains b
def esc (l : List UInt8) : List UInt8 := l.flatMap fun b => if b = 34 ∨ b = 92 then [92, b] else [b]
def frm (s : ByteArray) : ByteArray := if qt s.data.toList = true then ⟨(34 :: esc s.data.toList ++ [34]).toArray⟩ else s

theorem bAt_get (s : ByteArray) (i : Nat) (b : UInt8) (h : s.data.toList[i]? = some b) : bAt s (i : Int) = (b.toNat : Int) := by
  unfold bAt
  rw [show ((i : Nat) : Int).toNat = i from rfl, List.getD_eq_getElem?_getD, h]; rfl
theorem size_len (s : ByteArray) : s.data.toList.length = s.size := rfl
theorem drop_at (s : ByteArray) (i : Nat) (h : i < s.size) : ∃ b, s.data.toList[i]? = some b ∧ s.data.toList.drop i = b :: s.data.toList.drop (i + 1) := by
  have h' : i < s.data.toList.length := h
  exact ⟨s.data.toList[i], by simp, by rw [List.drop_eq_getElem_cons h']⟩

theorem f29_l (k : Nat) (s : ByteArray) (hs : s.size ≤ 256) : ∀ (j i : Nat), i ≤ s.size → s.size - i < j →
    f29_4 k j s (s.size : Int) (i : Int) = some (if (s.data.toList.drop i).all okB = true then 0 else 3)
  | 0, i, _, h => by omega
  | j + 1, i, hi, hj => by
    unfold f29_4
    by_cases hlt : i < s.size
    · obtain ⟨b, hb, hd⟩ := drop_at s i hlt
      rw [decide_eq_true (by omega : (i : Int) < (s.size : Int)), hd, List.all_cons]
      simp only [cond_true]
      rw [if_pos ⟨by omega, by omega, fun _ => by omega, fun _ => by omega⟩, bAt_get s i b hb, wrapS i (by omega)]
      cases hc : okB b
      · have : (decide ((b.toNat : Int) < 32) || decide ((b.toNat : Int) > 126)) = true := by
          unfold okB at hc
          simp only [Bool.and_eq_false_iff, decide_eq_false_iff_not] at hc
          simp only [Bool.or_eq_true, decide_eq_true_eq]
          omega
        rw [this]
        simp
      · have : (decide ((b.toNat : Int) < 32) || decide ((b.toNat : Int) > 126)) = false := by
          unfold okB at hc
          simp only [Bool.and_eq_true, decide_eq_true_eq] at hc
          simp only [Bool.or_eq_false_iff, decide_eq_false_iff_not]
          omega
        rw [this]
        simp only [cond_false, Bool.true_and]
        exact f29_l k s hs j (i + 1) (by omega) (by omega)
    · have : s.data.toList.drop i = [] := List.drop_of_length_le (by rw [size_len]; omega)
      rw [decide_eq_false (by omega : ¬ (i : Int) < (s.size : Int)), this]
      simp
theorem f29_s (k : Nat) (hk : 300 ≤ k) (s : ByteArray) : f29 k s = some (chk s) := by
  unfold f29 chk
  by_cases h : 256 < s.size
  · rw [decide_eq_true (by omega : (s.size : Int) > 256), if_pos h]; rfl
  · rw [decide_eq_false (by omega : ¬ (s.size : Int) > 256), if_neg h]
    simp only [cond_false]
    have := f29_l k s (by omega) k 0 (by omega) (by omega)
    rw [show ((0 : Nat) : Int) = 0 from rfl] at this
    rw [this]; rfl
theorem okB_asc {l : List UInt8} (h : l.all okB = true) : (l.all fun b => Nat.blt b.toNat 128) = true := by
  rw [List.all_eq_true] at h ⊢
  intro b hb
  have := h b hb
  unfold okB at this
  simp only [Bool.and_eq_true, decide_eq_true_eq] at this
  rw [Nat.blt_eq]; omega
theorem chk0 {s : ByteArray} (h : chk s = 0) : s.size ≤ 256 ∧ s.data.toList.all okB = true := by
  unfold chk at h
  split at h
  · cases h
  · split at h
    · exact ⟨by omega, by assumption⟩
    · cases h
theorem emp (s : ByteArray) : (s.toList == (ByteArray.mk #[]).toList) = s.data.toList.isEmpty := by
  rw [tl_data, tl_data]
  cases s.data.toList <;> rfl
theorem f47_a (k : Nat) (s : ByteArray) (h : s.size ≤ 1000000000) : f47 k s (ByteArray.mk #[32, 34, 92]) = some (s.data.toList.any fun b => [32, 34, 92].contains b) := by
  unfold f47
  rw [indexAny_any]
  have : (Nat.ble s.size 1000000000 && (Nat.ble 2 (ByteArray.mk #[32, 34, 92]).size && (Nat.ble (ByteArray.mk #[32, 34, 92]).size 1000 && asc (ByteArray.mk #[32, 34, 92])))) = true := by
    simp only [Bool.and_eq_true, Nat.ble_eq]
    exact ⟨by omega, by decide, by decide, by decide⟩
  rw [this]; rfl
theorem f30_a (k : Nat) (s : ByteArray) (h : s.size ≤ 1000000000) : f30 k s = some (qt s.data.toList) := by
  have v : v47 k s (ByteArray.mk #[32, 34, 92]) = (s.data.toList.any fun b => [32, 34, 92].contains b) := by unfold v47; rw [f47_a k s h]; rfl
  unfold f30 qt
  rw [emp, f47_a k s h, v]
  cases s.data.toList.isEmpty
  · simp
  · simp
theorem f30_s (k : Nat) (s : ByteArray) (h : chk s = 0) : f30 k s = some (qt s.data.toList) := f30_a k s (by have := (chk0 h).1; omega)
end Go.AM
namespace Go.AM
open Go Go.Proofs Go.Lib

theorem u_eq (b : UInt8) (c : Nat) (hc : c < 256) : (((b.toNat : Nat) : Int) == (c : Int)) = (b == UInt8.ofNat c) := by
  rw [Bool.eq_iff_iff, beq_iff_eq, beq_iff_eq]
  constructor
  · intro h
    apply UInt8.toNat_inj.1
    rw [UInt8.toNat_ofNat_of_lt' (by simpa using hc)]; omega
  · intro h; subst h
    rw [UInt8.toNat_ofNat_of_lt' (by simpa using hc)]

theorem esc_two : ∀ l : List UInt8, sub1 34 [92, 34] (sub1 92 [92, 92] l) = esc l
  | [] => rfl
  | b :: l => by
    have ih := esc_two l
    unfold sub1 esc at ih ⊢
    simp only [List.flatMap_cons, List.flatMap_append] at ih ⊢
    rw [ih]
    by_cases h1 : b = 92
    · subst h1; rfl
    · by_cases h2 : b = 34
      · subst h2; rfl
      · simp [h1, h2]
theorem sub1_len (c : UInt8) (a d : UInt8) : ∀ l : List UInt8, (sub1 c [a, d] l).length ≤ 2 * l.length
  | [] => by simp [sub1]
  | b :: l => by
    have := sub1_len c a d l
    unfold sub1 at this ⊢
    rw [List.flatMap_cons, List.length_append]
    split <;> simp only [List.length_cons, List.length_nil] <;> omega
theorem esc_len : ∀ l : List UInt8, (esc l).length ≤ 2 * l.length
  | [] => by simp [esc]
  | b :: l => by
    have := esc_len l
    unfold esc at this ⊢
    rw [List.flatMap_cons, List.length_append]
    split <;> simp only [List.length_cons, List.length_nil] <;> omega

theorem mkL_list (l : List UInt8) : (mkL l).data.toList = l := by simp [mkL]
theorem mkL_size (l : List UInt8) : (mkL l).size = l.length := by rw [← size_len, mkL_list]
theorem mkL_app (l m : List UInt8) : mkL l ++ mkL m = mkL (l ++ m) := by
  apply ByteArray.ext
  simp [mkL]
theorem of_list (s : ByteArray) : mkL s.data.toList = s := by
  apply ByteArray.ext
  simp [mkL]

theorem f31_a (k : Nat) (s : ByteArray) (hs : s.size ≤ 1000) : f31 k s (ByteArray.mk #[92]) (ByteArray.mk #[92, 92]) = some (mkL (sub1 92 [92, 92] s.data.toList)) := by
  unfold f31
  have : (Nat.ble s.size 10000000 && (Nat.ble 1 (ByteArray.mk #[92]).size && (Nat.ble (ByteArray.mk #[92]).size 100 && Nat.ble (ByteArray.mk #[92, 92]).size 100))) = true := by
    simp only [Bool.and_eq_true, Nat.ble_eq]
    exact ⟨by omega, by decide, by decide, by decide⟩
  rw [this, show (ByteArray.mk #[92]).data.toList = [92] from rfl, show (ByteArray.mk #[92, 92]).data.toList = [92, 92] from rfl, replaceAll1 92 [92, 92] _ (by decide)]
  rfl
theorem f31_b (k : Nat) (s : ByteArray) (hs : s.size ≤ 1000) : f31 k s (ByteArray.mk #[34]) (ByteArray.mk #[92, 34]) = some (mkL (sub1 34 [92, 34] s.data.toList)) := by
  unfold f31
  have : (Nat.ble s.size 10000000 && (Nat.ble 1 (ByteArray.mk #[34]).size && (Nat.ble (ByteArray.mk #[34]).size 100 && Nat.ble (ByteArray.mk #[92, 34]).size 100))) = true := by
    simp only [Bool.and_eq_true, Nat.ble_eq]
    exact ⟨by omega, by decide, by decide, by decide⟩
  rw [this, show (ByteArray.mk #[34]).data.toList = [34] from rfl, show (ByteArray.mk #[92, 34]).data.toList = [92, 34] from rfl, replaceAll1 34 [92, 34] _ (by decide)]
  rfl
theorem v31_a (k : Nat) (s : ByteArray) (hs : s.size ≤ 1000) : v31 k s (ByteArray.mk #[92]) (ByteArray.mk #[92, 92]) = mkL (sub1 92 [92, 92] s.data.toList) := by
  unfold v31; rw [f31_a k s hs]; rfl
theorem f31_c (k : Nat) (s : ByteArray) (hs : s.size ≤ 256) : f31 k (mkL (sub1 92 [92, 92] s.data.toList)) (ByteArray.mk #[34]) (ByteArray.mk #[92, 34]) = some (mkL (esc s.data.toList)) := by
  have := sub1_len 92 92 92 s.data.toList
  rw [size_len] at this
  rw [f31_b k _ (by rw [mkL_size]; omega), mkL_list, esc_two]
theorem v31_c (k : Nat) (s : ByteArray) (hs : s.size ≤ 256) : v31 k (mkL (sub1 92 [92, 92] s.data.toList)) (ByteArray.mk #[34]) (ByteArray.mk #[92, 34]) = mkL (esc s.data.toList) := by
  unfold v31; rw [f31_c k s hs]; rfl
theorem quo (l : List UInt8) : ByteArray.mk #[34] ++ mkL l ++ ByteArray.mk #[34] = mkL (34 :: l ++ [34]) := by
  rw [show ByteArray.mk #[34] = mkL [34] from rfl, mkL_app, mkL_app]; rfl

/-! ### the reference's form -/
theorem f49_l (k c : Nat) (hc : c < 256) (s : ByteArray) (hs : s.size ≤ 1000) : ∀ (j i : Nat), i ≤ s.size → s.size - i < j →
    f49_2 k j s (c : Int) (i : Int) = some ((s.data.toList.drop i).any fun b => b == UInt8.ofNat c)
  | 0, i, _, h => by omega
  | j + 1, i, hi, hj => by
    unfold f49_2
    by_cases hlt : i < s.size
    · obtain ⟨b, hb, hd⟩ := drop_at s i hlt
      rw [decide_eq_true (by omega : (i : Int) < (s.size : Int)), hd, List.any_cons]
      simp only [cond_true]
      rw [if_pos ⟨by omega, by omega⟩, bAt_get s i b hb, wrapS i (by omega), u_eq b c hc]
      cases b == UInt8.ofNat c
      · simp only [cond_false, Bool.false_or]
        exact f49_l k c hc s hs j (i + 1) (by omega) (by omega)
      · simp
    · have : s.data.toList.drop i = [] := List.drop_of_length_le (by rw [size_len]; omega)
      rw [decide_eq_false (by omega : ¬ (i : Int) < (s.size : Int)), this]
      simp
theorem f49_s (k c : Nat) (hk : 300 ≤ k) (hc : c < 256) (s : ByteArray) (hs : s.size ≤ 256) : f49 k s (c : Int) = some (s.data.toList.any fun b => b == UInt8.ofNat c) := by
  unfold f49
  have := f49_l k c hc s (by omega) k 0 (by omega) (by omega)
  rw [show ((0 : Nat) : Int) = 0 from rfl] at this
  rw [this]; rfl
theorem v49_s (k c : Nat) (hk : 300 ≤ k) (hc : c < 256) (s : ByteArray) (hs : s.size ≤ 256) : v49 k s (c : Int) = (s.data.toList.any fun b => b == UInt8.ofNat c) := by
  unfold v49; rw [f49_s k c hk hc s hs]; rfl
theorem ext1 (s : ByteArray) (i : Nat) (b : UInt8) (h : s.data.toList[i]? = some b) : s.extract i (i + 1) = mkL [b] := by
  rw [← of_list (s.extract i (i + 1))]
  congr 1
  rw [ByteArray.data_extract, Array.toList_extract, List.extract_eq_take_drop]
  have : i < s.data.toList.length := by
    rcases Nat.lt_or_ge i s.data.toList.length with h' | h'
    · exact h'
    · rw [List.getElem?_eq_none h'] at h; cases h
  rw [List.drop_eq_getElem_cons this, show i + 1 - i = 1 by omega]
  rw [List.getElem?_eq_getElem this] at h
  simp at h ⊢
  exact h
theorem hmx : IntKind.i64.max = 9223372036854775807 := rfl
theorem q34 (b : UInt8) : (((b.toNat : Nat) : Int) == (34 : Int)) = (b == 34) := u_eq b 34 (by omega)
theorem q92 (b : UInt8) : (((b.toNat : Nat) : Int) == (92 : Int)) = (b == 92) := u_eq b 92 (by omega)
theorem m92 : (ByteArray.mk #[92]) = mkL [92] := rfl
theorem m34 : (ByteArray.mk #[34]) = mkL [34] := rfl
theorem f32_l (k : Nat) (s : ByteArray) (hs : s.size ≤ 256) : ∀ (j i : Nat) (a : List UInt8), i ≤ s.size → s.size - i < j → a.length ≤ 1 + 2 * i →
    f32_5 k j s (mkL a) (i : Int) = some (mkL (a ++ esc (s.data.toList.drop i) ++ [34]))
  | 0, i, _, _, h, _ => by omega
  | j + 1, i, a, hi, hj, ha => by
    unfold f32_5
    by_cases hlt : i < s.size
    · obtain ⟨b, hb, hd⟩ := drop_at s i hlt
      rw [decide_eq_true (by omega : (i : Int) < (s.size : Int)), hd]
      simp only [cond_true]
      rw [if_pos ⟨by omega, by omega, fun _ => by omega, fun _ => by omega⟩, bAt_get s i b hb, wrapS i (by omega)]
      rw [show ((i : Nat) : Int).toNat = i from rfl, show ((i + 1 : Nat) : Int).toNat = i + 1 from rfl, ext1 s i b hb]
      rw [q34, q92, m92, mkL_app, mkL_app, mkL_app, mkL_size, mkL_size, mkL_size, mkL_size, hmx]
      have he : esc (b :: s.data.toList.drop (i + 1)) = (if b = 34 ∨ b = 92 then [92, b] else [b]) ++ esc (s.data.toList.drop (i + 1)) := by
        rw [esc, List.flatMap_cons]; rfl
      rw [he]
      cases hq : (b == 34 || b == 92)
      · have hn : ¬ (b = 34 ∨ b = 92) := by
          simpa using hq
        have hb4 : ((a.length + [b].length : Nat) : Int) ≤ 9223372036854775807 := by
          rw [List.length_singleton]; omega
        rw [cond_false, if_pos ⟨by omega, by omega, by omega, hb4⟩, if_neg hn]
        rw [f32_l k s hs j (i + 1) (a ++ [b]) (by omega) (by omega) (by simp only [List.length_append, List.length_cons, List.length_nil]; omega)]
        simp
      · have hn : (b = 34 ∨ b = 92) := by
          simpa using hq
        rw [cond_true]
        have hb1 : ((a.length + [(92 : UInt8)].length : Nat) : Int) ≤ 9223372036854775807 := by
          have : [(92 : UInt8)].length = 1 := rfl
          rw [this]; omega
        have hb3 : (((a ++ [92]).length + [b].length : Nat) : Int) ≤ 9223372036854775807 := by
          rw [List.length_append, List.length_singleton, List.length_singleton]; omega
        rw [if_pos hb1, if_pos ⟨by omega, by omega, by omega, hb3⟩, if_pos hn]
        rw [f32_l k s hs j (i + 1) (a ++ [92] ++ [b]) (by omega) (by omega) (by simp only [List.length_append, List.length_cons, List.length_nil]; omega)]
        simp
    · have : s.data.toList.drop i = [] := List.drop_of_length_le (by rw [size_len]; omega)
      rw [decide_eq_false (by omega : ¬ (i : Int) < (s.size : Int)), this]
      have hb2 : ((a.length + [(34 : UInt8)].length : Nat) : Int) ≤ 9223372036854775807 := by
        have : [(34 : UInt8)].length = 1 := rfl
        rw [this]; omega
      rw [cond_false, m34, mkL_app, mkL_size, mkL_size, hmx, if_pos hb2]
      simp [esc]
end Go.AM
namespace Go.AM
open Go Go.Proofs
set_option linter.unusedVariables false
noncomputable section
/-! ### function 15: papermill/papermillref07.Join -/
def K15 (k : Nat) : Calld := ⟨fun g => match g with
  | 32 => some [false]
  | _ => none, fun g xs _ => match g with
  | 32 => match xs with
    | [.r (.v (.string s_))] => some (res32 (v32 k s_), bo32 (v32 k s_))
    | _ => none
  | _ => none⟩
abbrev R15 : Type := ByteArray × Int
def res15 (r : R15) : AV := .tup [.r (.v (.string r.1)), .r (.v (.int .i64 r.2))]
def bo15 (r : R15) : List (Nat × Blk) := []
def st15_3 (x0 : List (RTy.str).T) (x1 : ByteArray) (x2 : Int) : St := ⟨mkS 66 [(0, .r (.ro RTy.str x0)), (4, .r (.v (.string x1))), (5, .r (.v (.int .i64 x2)))], []⟩
def st15_8 (x0 : List (RTy.str).T) (x1 : ByteArray) (x2 : Int) (x3 : Int) : St := ⟨mkS 66 [(0, .r (.ro RTy.str x0)), (4, .r (.v (.string x1))), (5, .r (.v (.int .i64 x2))), (6, .r (.v (.int .i64 x3)))], []⟩
def st15_13 (x0 : List (RTy.str).T) (x1 : ByteArray) (x2 : Int) : St := ⟨mkS 66 [(0, .r (.ro RTy.str x0)), (4, .r (.v (.string x1))), (7, .r (.v (.int .i64 x2)))], []⟩
mutual
def f15_3 (k : Nat) : Nat → List (RTy.str).T → ByteArray → Int → Option R15
  | 0, _, _, _ => none
  | j + 1, x0, x1, x2 =>
    bif (decide (x2 < (↑x0.length : Int))) then
      if ((0 : Int) ≤ x2) ∧ (x2 < (↑x0.length : Int)) then
        bif (decide ((↑ (ByteArray.size (x0.getD x2.toNat RTy.str.dflt)) : Int) > (256 : Int))) then
          some ((ByteArray.mk #[], 8))
        else
          f15_8 k j x0 x1 x2 0
      else none
    else
      f15_13 k j x0 x1 0
def f15_8 (k : Nat) : Nat → List (RTy.str).T → ByteArray → Int → Int → Option R15
  | 0, _, _, _, _ => none
  | j + 1, x0, x1, x2, x3 =>
    if ((0 : Int) ≤ x2) ∧ (x2 < (↑x0.length : Int)) then
      bif (decide (x3 < (↑ (ByteArray.size (x0.getD x2.toNat RTy.str.dflt)) : Int))) then
        if ((0 : Int) ≤ x2) ∧ (x2 < (↑x0.length : Int)) ∧ ((0 : Int) ≤ x3) ∧ (x3 < (↑ (ByteArray.size (x0.getD x2.toNat RTy.str.dflt)) : Int)) ∧ (decide (bAt (x0.getD x2.toNat RTy.str.dflt) x3 < (32 : Int)) = false → (0 : Int) ≤ x2) ∧ (decide (bAt (x0.getD x2.toNat RTy.str.dflt) x3 < (32 : Int)) = false → x2 < (↑x0.length : Int)) ∧ (decide (bAt (x0.getD x2.toNat RTy.str.dflt) x3 < (32 : Int)) = false → (0 : Int) ≤ x3) ∧ (decide (bAt (x0.getD x2.toNat RTy.str.dflt) x3 < (32 : Int)) = false → x3 < (↑ (ByteArray.size (x0.getD x2.toNat RTy.str.dflt)) : Int)) then
          bif (decide (bAt (x0.getD x2.toNat RTy.str.dflt) x3 < (32 : Int)) || decide (bAt (x0.getD x2.toNat RTy.str.dflt) x3 > (126 : Int))) then
            some ((ByteArray.mk #[], 3))
          else
            f15_8 k j x0 x1 x2 ((IntKind.i64.wrap (x3 + 1)))
        else none
      else
        f15_3 k j x0 x1 ((IntKind.i64.wrap (x2 + 1)))
    else none
def f15_13 (k : Nat) : Nat → List (RTy.str).T → ByteArray → Int → Option R15
  | 0, _, _, _ => none
  | j + 1, x0, x1, x2 =>
    bif (decide (x2 < (↑x0.length : Int))) then
      bif (decide (x2 > (0 : Int))) then
        if ((↑ (x1.size + (ByteArray.mk #[(32 : UInt8)]).size) : Int) ≤ IntKind.i64.max) then
          if ((0 : Int) ≤ x2) ∧ (x2 < (↑x0.length : Int)) ∧ ((f32 k (x0.getD x2.toNat RTy.str.dflt)).isSome = true) ∧ ((↑ ((x1 ++ (ByteArray.mk #[(32 : UInt8)])).size + ByteArray.size (v32 k (x0.getD x2.toNat RTy.str.dflt))) : Int) ≤ IntKind.i64.max) then
            bif (decide ((↑ (x1 ++ (ByteArray.mk #[(32 : UInt8)]) ++ v32 k (x0.getD x2.toNat RTy.str.dflt)).size : Int) > (1024 : Int))) then
              some ((ByteArray.mk #[], 8))
            else
              f15_13 k j x0 ((x1 ++ (ByteArray.mk #[32]) ++ v32 k (x0.getD x2.toNat RTy.str.dflt))) ((IntKind.i64.wrap (x2 + 1)))
          else none
        else none
      else
        if ((0 : Int) ≤ x2) ∧ (x2 < (↑x0.length : Int)) ∧ ((f32 k (x0.getD x2.toNat RTy.str.dflt)).isSome = true) ∧ ((↑ (x1.size + ByteArray.size (v32 k (x0.getD x2.toNat RTy.str.dflt))) : Int) ≤ IntKind.i64.max) then
          bif (decide ((↑ (x1 ++ v32 k (x0.getD x2.toNat RTy.str.dflt)).size : Int) > (1024 : Int))) then
            some ((ByteArray.mk #[], 8))
          else
            f15_13 k j x0 ((x1 ++ v32 k (x0.getD x2.toNat RTy.str.dflt))) ((IntKind.i64.wrap (x2 + 1)))
        else none
    else
      some ((x1, 0))
end
def f15 (k : Nat) (fields_ : List (RTy.str).T) : Option R15 :=
  f15_3 k k fields_ ((ByteArray.mk #[])) 0
def args15 (fields_ : List (RTy.str).T) : List AV := [.r (.ro RTy.str fields_)]
def v15 (k : Nat) (fields_ : List (RTy.str).T) : R15 := (f15 k fields_).getD (ByteArray.empty, 0)
theorem ev15 (k : Nat) : ∀ j, (∀ (x0 : List (RTy.str).T) (x1 : ByteArray) (x2 : Int) (r : R15), f15_3 k j x0 x1 x2 = some r → Ev Tryd.prog Tryd.f15 0 (placeAt Tryd.f15 3) (st15_3 x0 x1 x2) (res15 r) (bo15 r)) ∧ (∀ (x0 : List (RTy.str).T) (x1 : ByteArray) (x2 : Int) (x3 : Int) (r : R15), f15_8 k j x0 x1 x2 x3 = some r → Ev Tryd.prog Tryd.f15 0 (placeAt Tryd.f15 8) (st15_8 x0 x1 x2 x3) (res15 r) (bo15 r)) ∧ (∀ (x0 : List (RTy.str).T) (x1 : ByteArray) (x2 : Int) (r : R15), f15_13 k j x0 x1 x2 = some r → Ev Tryd.prog Tryd.f15 0 (placeAt Tryd.f15 13) (st15_13 x0 x1 x2) (res15 r) (bo15 r))
  | 0 => by
    refine ⟨?_, ?_, ?_⟩ <;> intros <;> rename_i h <;> simp [f15_3, f15_8, f15_13] at h
  | j + 1 => by
    have ih := ev15 k j
    refine ⟨?_, ?_, ?_⟩
    · intro x0 x1 x2 r h
      rw [f15_3] at h
      refine Ev.tree hm (R := Rt) (K := (K15 k)) (l := []) (C := [(3, [.auto [0, 4, 5] false]), (8, [.auto [0, 4, 5, 6] false]), (13, [.auto [0, 4, 7] false])]) (E := [.auto [2, 3] true]) (n := 1000) (T := .test ((decide (x2 < (↑x0.length : Int)))) (.need [(0 : Int) ≤ x2, x2 < (↑x0.length : Int)] (.test ((decide ((↑ (ByteArray.size (x0.getD x2.toNat RTy.str.dflt)) : Int) > (256 : Int)))) (.leaf (res15 ((ByteArray.mk #[], 8))) (bo15 ((ByteArray.mk #[], 8)))) (.cut 8 (placeAt Tryd.f15 8) (st15_8 x0 x1 x2 0)))) (.cut 13 (placeAt Tryd.f15 13) (st15_13 x0 x1 0))) (by kernel_rfl) ?_
      refine ⟨fun c => ?_, fun c => ?_⟩
      · rw [cond_t c] at h
        by_cases q : ((0 : Int) ≤ x2) ∧ (x2 < (↑x0.length : Int))
        · rw [if_pos q] at h
          refine ⟨(conjC q.1 (conjC q.2 conj0)), ?_⟩
          refine ⟨fun c => ?_, fun c => ?_⟩
          · rw [cond_t c] at h
            cases h; exact ⟨rfl, rfl⟩
          · rw [cond_f c] at h
            exact ih.2.1 x0 x1 x2 0 _ h
        · rw [if_neg q] at h; cases h
      · rw [cond_f c] at h
        exact ih.2.2 x0 x1 0 _ h
    · intro x0 x1 x2 x3 r h
      rw [f15_8] at h
      refine Ev.tree hm (R := Rt) (K := (K15 k)) (l := []) (C := [(3, [.auto [0, 4, 5] false]), (8, [.auto [0, 4, 5, 6] false]), (13, [.auto [0, 4, 7] false])]) (E := [.auto [2, 3] true]) (n := 1000) (T := .need [(0 : Int) ≤ x2, x2 < (↑x0.length : Int)] (.test ((decide (x3 < (↑ (ByteArray.size (x0.getD x2.toNat RTy.str.dflt)) : Int)))) (.need [(0 : Int) ≤ x2, x2 < (↑x0.length : Int), (0 : Int) ≤ x3, x3 < (↑ (ByteArray.size (x0.getD x2.toNat RTy.str.dflt)) : Int), decide (bAt (x0.getD x2.toNat RTy.str.dflt) x3 < (32 : Int)) = false → (0 : Int) ≤ x2, decide (bAt (x0.getD x2.toNat RTy.str.dflt) x3 < (32 : Int)) = false → x2 < (↑x0.length : Int), decide (bAt (x0.getD x2.toNat RTy.str.dflt) x3 < (32 : Int)) = false → (0 : Int) ≤ x3, decide (bAt (x0.getD x2.toNat RTy.str.dflt) x3 < (32 : Int)) = false → x3 < (↑ (ByteArray.size (x0.getD x2.toNat RTy.str.dflt)) : Int)] (.test ((decide (bAt (x0.getD x2.toNat RTy.str.dflt) x3 < (32 : Int)) || decide (bAt (x0.getD x2.toNat RTy.str.dflt) x3 > (126 : Int)))) (.leaf (res15 ((ByteArray.mk #[], 3))) (bo15 ((ByteArray.mk #[], 3)))) (.cut 8 (placeAt Tryd.f15 8) (st15_8 x0 x1 x2 ((IntKind.i64.wrap (x3 + 1))))))) (.cut 3 (placeAt Tryd.f15 3) (st15_3 x0 x1 ((IntKind.i64.wrap (x2 + 1))))))) (by kernel_rfl) ?_
      by_cases q : ((0 : Int) ≤ x2) ∧ (x2 < (↑x0.length : Int))
      · rw [if_pos q] at h
        refine ⟨(conjC q.1 (conjC q.2 conj0)), ?_⟩
        refine ⟨fun c => ?_, fun c => ?_⟩
        · rw [cond_t c] at h
          by_cases q : ((0 : Int) ≤ x2) ∧ (x2 < (↑x0.length : Int)) ∧ ((0 : Int) ≤ x3) ∧ (x3 < (↑ (ByteArray.size (x0.getD x2.toNat RTy.str.dflt)) : Int)) ∧ (decide (bAt (x0.getD x2.toNat RTy.str.dflt) x3 < (32 : Int)) = false → (0 : Int) ≤ x2) ∧ (decide (bAt (x0.getD x2.toNat RTy.str.dflt) x3 < (32 : Int)) = false → x2 < (↑x0.length : Int)) ∧ (decide (bAt (x0.getD x2.toNat RTy.str.dflt) x3 < (32 : Int)) = false → (0 : Int) ≤ x3) ∧ (decide (bAt (x0.getD x2.toNat RTy.str.dflt) x3 < (32 : Int)) = false → x3 < (↑ (ByteArray.size (x0.getD x2.toNat RTy.str.dflt)) : Int))
          · rw [if_pos q] at h
            refine ⟨(conjC q.1 (conjC q.2.1 (conjC q.2.2.1 (conjC q.2.2.2.1 (conjC q.2.2.2.2.1 (conjC q.2.2.2.2.2.1 (conjC q.2.2.2.2.2.2.1 (conjC q.2.2.2.2.2.2.2 conj0)))))))), ?_⟩
            refine ⟨fun c => ?_, fun c => ?_⟩
            · rw [cond_t c] at h
              cases h; exact ⟨rfl, rfl⟩
            · rw [cond_f c] at h
              exact ih.2.1 x0 x1 x2 ((IntKind.i64.wrap (x3 + 1))) _ h
          · rw [if_neg q] at h; cases h
        · rw [cond_f c] at h
          exact ih.1 x0 x1 ((IntKind.i64.wrap (x2 + 1))) _ h
      · rw [if_neg q] at h; cases h
    · intro x0 x1 x2 r h
      rw [f15_13] at h
      refine Ev.tree hm (R := Rt) (K := (K15 k)) (l := []) (C := [(3, [.auto [0, 4, 5] false]), (8, [.auto [0, 4, 5, 6] false]), (13, [.auto [0, 4, 7] false])]) (E := [.auto [2, 3] true]) (n := 1000) (T := .test ((decide (x2 < (↑x0.length : Int)))) (.test ((decide (x2 > (0 : Int)))) (.need [(↑ (x1.size + (ByteArray.mk #[(32 : UInt8)]).size) : Int) ≤ IntKind.i64.max] (.need [(0 : Int) ≤ x2, x2 < (↑x0.length : Int), CC Tryd.prog 32 (args32 (x0.getD x2.toNat RTy.str.dflt)) [] (res32 (v32 k (x0.getD x2.toNat RTy.str.dflt))) (bo32 (v32 k (x0.getD x2.toNat RTy.str.dflt))), (↑ ((x1 ++ (ByteArray.mk #[(32 : UInt8)])).size + ByteArray.size (v32 k (x0.getD x2.toNat RTy.str.dflt))) : Int) ≤ IntKind.i64.max] (.test ((decide ((↑ (x1 ++ (ByteArray.mk #[(32 : UInt8)]) ++ v32 k (x0.getD x2.toNat RTy.str.dflt)).size : Int) > (1024 : Int)))) (.leaf (res15 ((ByteArray.mk #[], 8))) (bo15 ((ByteArray.mk #[], 8)))) (.cut 13 (placeAt Tryd.f15 13) (st15_13 x0 ((x1 ++ (ByteArray.mk #[32]) ++ v32 k (x0.getD x2.toNat RTy.str.dflt))) ((IntKind.i64.wrap (x2 + 1)))))))) (.need [(0 : Int) ≤ x2, x2 < (↑x0.length : Int), CC Tryd.prog 32 (args32 (x0.getD x2.toNat RTy.str.dflt)) [] (res32 (v32 k (x0.getD x2.toNat RTy.str.dflt))) (bo32 (v32 k (x0.getD x2.toNat RTy.str.dflt))), (↑ (x1.size + ByteArray.size (v32 k (x0.getD x2.toNat RTy.str.dflt))) : Int) ≤ IntKind.i64.max] (.test ((decide ((↑ (x1 ++ v32 k (x0.getD x2.toNat RTy.str.dflt)).size : Int) > (1024 : Int)))) (.leaf (res15 ((ByteArray.mk #[], 8))) (bo15 ((ByteArray.mk #[], 8)))) (.cut 13 (placeAt Tryd.f15 13) (st15_13 x0 ((x1 ++ v32 k (x0.getD x2.toNat RTy.str.dflt))) ((IntKind.i64.wrap (x2 + 1)))))))) (.leaf (res15 ((x1, 0))) (bo15 ((x1, 0))))) (by kernel_rfl) ?_
      refine ⟨fun c => ?_, fun c => ?_⟩
      · rw [cond_t c] at h
        refine ⟨fun c => ?_, fun c => ?_⟩
        · rw [cond_t c] at h
          by_cases q : ((↑ (x1.size + (ByteArray.mk #[(32 : UInt8)]).size) : Int) ≤ IntKind.i64.max)
          · rw [if_pos q] at h
            refine ⟨(conjC q conj0), ?_⟩
            by_cases q : ((0 : Int) ≤ x2) ∧ (x2 < (↑x0.length : Int)) ∧ ((f32 k (x0.getD x2.toNat RTy.str.dflt)).isSome = true) ∧ ((↑ ((x1 ++ (ByteArray.mk #[(32 : UInt8)])).size + ByteArray.size (v32 k (x0.getD x2.toNat RTy.str.dflt))) : Int) ≤ IntKind.i64.max)
            · rw [if_pos q] at h
              refine ⟨(conjC q.1 (conjC q.2.1 (conjC (cc32 k (x0.getD x2.toNat RTy.str.dflt) q.2.2.1) (conjC q.2.2.2 conj0)))), ?_⟩
              refine ⟨fun c => ?_, fun c => ?_⟩
              · rw [cond_t c] at h
                cases h; exact ⟨rfl, rfl⟩
              · rw [cond_f c] at h
                exact ih.2.2 x0 ((x1 ++ (ByteArray.mk #[32]) ++ v32 k (x0.getD x2.toNat RTy.str.dflt))) ((IntKind.i64.wrap (x2 + 1))) _ h
            · rw [if_neg q] at h; cases h
          · rw [if_neg q] at h; cases h
        · rw [cond_f c] at h
          by_cases q : ((0 : Int) ≤ x2) ∧ (x2 < (↑x0.length : Int)) ∧ ((f32 k (x0.getD x2.toNat RTy.str.dflt)).isSome = true) ∧ ((↑ (x1.size + ByteArray.size (v32 k (x0.getD x2.toNat RTy.str.dflt))) : Int) ≤ IntKind.i64.max)
          · rw [if_pos q] at h
            refine ⟨(conjC q.1 (conjC q.2.1 (conjC (cc32 k (x0.getD x2.toNat RTy.str.dflt) q.2.2.1) (conjC q.2.2.2 conj0)))), ?_⟩
            refine ⟨fun c => ?_, fun c => ?_⟩
            · rw [cond_t c] at h
              cases h; exact ⟨rfl, rfl⟩
            · rw [cond_f c] at h
              exact ih.2.2 x0 ((x1 ++ v32 k (x0.getD x2.toNat RTy.str.dflt))) ((IntKind.i64.wrap (x2 + 1))) _ h
          · rw [if_neg q] at h; cases h
      · rw [cond_f c] at h
        cases h; exact ⟨rfl, rfl⟩
theorem of15 (k : Nat) (fields_ : List (RTy.str).T) (r : R15) (h : f15 k fields_ = some r) : CC Tryd.prog 15 (args15 fields_) [] (res15 r) (bo15 r) := by
  refine CC.of (fn := Tryd.f15) (by kernel_rfl) (by kernel_rfl) (by kernel_rfl) (by kernel_rfl) ?_
  unfold f15 at h
  refine Ev.tree hm (R := Rt) (K := (K15 k)) (l := []) (C := [(3, [.auto [0, 4, 5] false]), (8, [.auto [0, 4, 5, 6] false]), (13, [.auto [0, 4, 7] false])]) (E := [.auto [2, 3] true]) (n := 1000) (T := .cut 3 (placeAt Tryd.f15 3) (st15_3 fields_ ((ByteArray.mk #[])) 0)) (by kernel_rfl) ?_
  exact (ev15 k k).1 fields_ ((ByteArray.mk #[])) 0 _ h
theorem cc15 (k : Nat) (fields_ : List (RTy.str).T) (h : (f15 k fields_).isSome = true) : CC Tryd.prog 15 (args15 fields_) [] (res15 (v15 k fields_)) (bo15 (v15 k fields_)) := by
  cases e : f15 k fields_ with
  | none => rw [e] at h; cases h
  | some r => rw [show v15 k fields_ = r by simp [v15, e]]; exact of15 k fields_ r e

end
end Go.AM
namespace Go.AM
open Go Go.Proofs Go.Lib

theorem any3 : ∀ l : List UInt8, (l.any fun b => [32, 34, 92].contains b) = ((l.any fun b => b == 32) || ((l.any fun b => b == 34) || (l.any fun b => b == 92)))
  | [] => rfl
  | b :: l => by
    have ih := any3 l
    have e : ([32, 34, 92] : List UInt8).contains b = (b == 32 || (b == 34 || b == 92)) := by
      rw [List.contains_cons, List.contains_cons, List.contains_cons, List.contains_nil, Bool.or_false]
    rw [List.any_cons, List.any_cons, List.any_cons, List.any_cons, e, ih]
    generalize (l.any fun b => b == 32) = A
    generalize (l.any fun b => b == 34) = B
    generalize (l.any fun b => b == 92) = C
    generalize (b == 32) = x
    generalize (b == 34) = y
    generalize (b == 92) = z
    cases A <;> cases B <;> cases C <;> cases x <;> cases y <;> cases z <;> rfl
theorem f32_s (k : Nat) (hk : 300 ≤ k) (s : ByteArray) (hs : s.size ≤ 256) : f32 k s = some (frm s) := by
  have hl : f32_5 k k s (ByteArray.mk #[34]) 0 = some (mkL (34 :: esc s.data.toList ++ [34])) := f32_l k s hs k 0 [34] (by omega) (by omega) (by simp)
  have a : f49 k s (32 : Int) = some (s.data.toList.any fun b => b == 32) := f49_s k 32 hk (by omega) s hs
  have b : f49 k s (34 : Int) = some (s.data.toList.any fun b => b == 34) := f49_s k 34 hk (by omega) s hs
  have c : f49 k s (92 : Int) = some (s.data.toList.any fun b => b == 92) := f49_s k 92 hk (by omega) s hs
  have a' : v49 k s (32 : Int) = (s.data.toList.any fun b => b == 32) := v49_s k 32 hk (by omega) s hs
  have b' : v49 k s (34 : Int) = (s.data.toList.any fun b => b == 34) := v49_s k 34 hk (by omega) s hs
  have c' : v49 k s (92 : Int) = (s.data.toList.any fun b => b == 92) := v49_s k 92 hk (by omega) s hs
  have hf : frm s = if (s.data.toList.isEmpty || ((s.data.toList.any fun b => b == 32) || ((s.data.toList.any fun b => b == 34) || (s.data.toList.any fun b => b == 92)))) = true then mkL (34 :: esc s.data.toList ++ [34]) else s := by
    unfold frm qt; rw [any3]; rfl
  unfold f32
  rw [emp, a, b, c, a', b', c', hl, hf]
  generalize mkL (34 :: esc s.data.toList ++ [34]) = q
  generalize (s.data.toList.any fun b => b == 32) = A
  generalize (s.data.toList.any fun b => b == 34) = B
  generalize (s.data.toList.any fun b => b == 92) = C
  generalize s.data.toList.isEmpty = D
  cases A <;> cases B <;> cases C <;> cases D <;> simp
theorem v32_s (k : Nat) (hk : 300 ≤ k) (s : ByteArray) (hs : s.size ≤ 256) : v32 k s = frm s := by unfold v32; rw [f32_s k hk s hs]; rfl
theorem frm_size (s : ByteArray) (hs : s.size ≤ 256) : (frm s).size ≤ 600 := by
  unfold frm
  split
  · have := esc_len s.data.toList
    rw [size_len] at this
    show (mkL (34 :: esc s.data.toList ++ [34])).size ≤ 600
    rw [mkL_size, List.length_append, List.length_cons, List.length_singleton]; omega
  · omega

def chkAll : List ByteArray → Int
  | [] => 0
  | s :: r => if chk s = 0 then chkAll r else chk s
def jn : Bool → ByteArray → List ByteArray → ByteArray × Int
  | _, acc, [] => (acc, 0)
  | f, acc, s :: r => if 1024 < ((if f = true then acc ++ ByteArray.mk #[32] else acc) ++ frm s).size then (ByteArray.mk #[], 8) else jn true ((if f = true then acc ++ ByteArray.mk #[32] else acc) ++ frm s) r
theorem app_size (a b : ByteArray) : (a ++ b).size = a.size + b.size := ByteArray.size_append

theorem f15_b (k : Nat) (hk : 300 ≤ k) (l : List ByteArray) (hl : l.length ≤ 2000) (hc : ∀ s ∈ l, chk s = 0) : ∀ (j i : Nat) (acc : ByteArray), i ≤ l.length → l.length - i < j → acc.size ≤ 1024 →
    f15_13 k j l acc (i : Int) = some (jn (decide (0 < i)) acc (l.drop i))
  | 0, i, _, _, h, _ => by omega
  | j + 1, i, acc, hi, hj, ha => by
    unfold f15_13
    by_cases hlt : i < l.length
    · have hd := drop_cons' l i RTy.str.dflt hlt
      rw [decide_eq_true (by omega : (i : Int) < (l.length : Int)), cond_true, hd, show ((i : Nat) : Int).toNat = i from rfl]
      have hs : chk (l.getD i RTy.str.dflt) = 0 := hc _ (by rw [List.getD_eq_getElem?_getD, List.getElem?_eq_getElem hlt]; exact List.getElem_mem hlt)
      generalize l.getD i RTy.str.dflt = s at hs
      have h256 := (chk0 hs).1
      have hfs := frm_size s h256
      rw [f32_s k hk s h256, v32_s k hk s h256, hmx, wrapS i (by omega)]
      have h1 : ((acc.size + (ByteArray.mk #[(32 : UInt8)]).size : Nat) : Int) ≤ 9223372036854775807 := by
        rw [show (ByteArray.mk #[(32 : UInt8)]).size = 1 from rfl]; omega
      have h2 : (((acc ++ ByteArray.mk #[(32 : UInt8)]).size + (frm s).size : Nat) : Int) ≤ 9223372036854775807 := by
        rw [app_size, show (ByteArray.mk #[(32 : UInt8)]).size = 1 from rfl]; omega
      have h3 : ((acc.size + (frm s).size : Nat) : Int) ≤ 9223372036854775807 := by omega
      rw [jn]
      by_cases h0 : 0 < i
      · rw [decide_eq_true (by omega : (i : Int) > 0), cond_true, if_pos h1, if_pos ⟨by omega, by omega, rfl, h2⟩, decide_eq_true h0, if_pos (c := true = true) rfl]
        by_cases hb : 1024 < (acc ++ ByteArray.mk #[32] ++ frm s).size
        · rw [decide_eq_true (by omega : ((acc ++ ByteArray.mk #[32] ++ frm s).size : Int) > 1024), cond_true, if_pos hb]
        · rw [decide_eq_false (by omega : ¬ ((acc ++ ByteArray.mk #[32] ++ frm s).size : Int) > 1024), cond_false, if_neg hb, f15_b k hk l hl hc j (i + 1) _ (by omega) (by omega) (by omega), decide_eq_true (by omega : 0 < i + 1)]
      · rw [decide_eq_false (by omega : ¬ (i : Int) > 0), cond_false, if_pos ⟨by omega, by omega, rfl, h3⟩, decide_eq_false h0, if_neg (c := false = true) Bool.false_ne_true]
        by_cases hb : 1024 < (acc ++ frm s).size
        · rw [decide_eq_true (by omega : ((acc ++ frm s).size : Int) > 1024), cond_true, if_pos hb]
        · rw [decide_eq_false (by omega : ¬ ((acc ++ frm s).size : Int) > 1024), cond_false, if_neg hb, f15_b k hk l hl hc j (i + 1) _ (by omega) (by omega) (by omega), decide_eq_true (by omega : 0 < i + 1)]
    · have : l.drop i = [] := List.drop_of_length_le (by omega)
      rw [decide_eq_false (by omega : ¬ (i : Int) < (l.length : Int)), cond_false, this]; rfl
end Go.AM
namespace Go.AM
open Go Go.Proofs
set_option linter.unusedVariables false
noncomputable section
/-! ### function 12: papermill/papermilllaw07.great -/
def K12 (k : Nat) : Calld := ⟨fun g => match g with
  | _ => none, fun g xs _ => match g with
  | _ => none⟩
abbrev R12 : Type := Bool
def res12 (r : R12) : AV := .r (.v (.bool r))
def bo12 (r : R12) : List (Nat × Blk) := []
def st12_4 (x0 : List (RTy.str).T) (x1 : Int) : St := ⟨mkS 19 [(0, .r (.ro RTy.str x0)), (3, .r (.v (.int .i64 x1)))], []⟩
def f12_4 (k : Nat) : Nat → List (RTy.str).T → Int → Option R12
  | 0, _, _ => none
  | j + 1, x0, x1 =>
    bif (decide (x1 < (↑x0.length : Int))) then
      if ((0 : Int) ≤ x1) ∧ (x1 < (↑x0.length : Int)) then
        bif (decide ((↑ (ByteArray.size (x0.getD x1.toNat RTy.str.dflt)) : Int) > (600 : Int))) then
          some true
        else
          f12_4 k j x0 ((IntKind.i64.wrap (x1 + 1)))
      else none
    else
      some false
def f12 (k : Nat) (l_ : List (RTy.str).T) : Option R12 :=
  bif (decide ((↑l_.length : Int) > (100 : Int))) then
    some true
  else
    f12_4 k k l_ 0
def args12 (l_ : List (RTy.str).T) : List AV := [.r (.ro RTy.str l_)]
def v12 (k : Nat) (l_ : List (RTy.str).T) : R12 := (f12 k l_).getD false
theorem ev12 (k : Nat) : ∀ j, (∀ (x0 : List (RTy.str).T) (x1 : Int) (r : R12), f12_4 k j x0 x1 = some r → Ev Tryd.prog Tryd.f12 0 (placeAt Tryd.f12 4) (st12_4 x0 x1) (res12 r) (bo12 r))
  | 0 => by
    intros; rename_i h; simp [f12_4] at h
  | j + 1 => by
    have ih := ev12 k j
    · intro x0 x1 r h
      rw [f12_4] at h
      refine Ev.tree hm (R := Rt) (K := (K12 k)) (l := []) (C := [(4, [.auto [0, 3] false])]) (E := [.auto [2] true]) (n := 1000) (T := .test ((decide (x1 < (↑x0.length : Int)))) (.need [(0 : Int) ≤ x1, x1 < (↑x0.length : Int)] (.test ((decide ((↑ (ByteArray.size (x0.getD x1.toNat RTy.str.dflt)) : Int) > (600 : Int)))) (.leaf (res12 true) (bo12 true)) (.cut 4 (placeAt Tryd.f12 4) (st12_4 x0 ((IntKind.i64.wrap (x1 + 1))))))) (.leaf (res12 false) (bo12 false))) (by kernel_rfl) ?_
      refine ⟨fun c => ?_, fun c => ?_⟩
      · rw [cond_t c] at h
        by_cases q : ((0 : Int) ≤ x1) ∧ (x1 < (↑x0.length : Int))
        · rw [if_pos q] at h
          refine ⟨(conjC q.1 (conjC q.2 conj0)), ?_⟩
          refine ⟨fun c => ?_, fun c => ?_⟩
          · rw [cond_t c] at h
            cases h; exact ⟨rfl, rfl⟩
          · rw [cond_f c] at h
            exact ih x0 ((IntKind.i64.wrap (x1 + 1))) _ h
        · rw [if_neg q] at h; cases h
      · rw [cond_f c] at h
        cases h; exact ⟨rfl, rfl⟩
theorem of12 (k : Nat) (l_ : List (RTy.str).T) (r : R12) (h : f12 k l_ = some r) : CC Tryd.prog 12 (args12 l_) [] (res12 r) (bo12 r) := by
  refine CC.of (fn := Tryd.f12) (by kernel_rfl) (by kernel_rfl) (by kernel_rfl) (by kernel_rfl) ?_
  unfold f12 at h
  refine Ev.tree hm (R := Rt) (K := (K12 k)) (l := []) (C := [(4, [.auto [0, 3] false])]) (E := [.auto [2] true]) (n := 1000) (T := .test ((decide ((↑l_.length : Int) > (100 : Int)))) (.leaf (res12 true) (bo12 true)) (.cut 4 (placeAt Tryd.f12 4) (st12_4 l_ 0))) (by kernel_rfl) ?_
  refine ⟨fun c => ?_, fun c => ?_⟩
  · rw [cond_t c] at h
    cases h; exact ⟨rfl, rfl⟩
  · rw [cond_f c] at h
    exact (ev12 k k) l_ 0 _ h
theorem cc12 (k : Nat) (l_ : List (RTy.str).T) (h : (f12 k l_).isSome = true) : CC Tryd.prog 12 (args12 l_) [] (res12 (v12 k l_)) (bo12 (v12 k l_)) := by
  cases e : f12 k l_ with
  | none => rw [e] at h; cases h
  | some r => rw [show v12 k l_ = r by simp [v12, e]]; exact of12 k l_ r e

end
end Go.AM
namespace Go.AM
open Go Go.Proofs
set_option linter.unusedVariables false
noncomputable section
/-! ### function 3: papermill/papermilllaw07.FieldJoins -/
def K3 (k : Nat) : Calld := ⟨fun g => match g with
  | 14 => some [false]
  | 13 => some []
  | 12 => some [false]
  | 15 => some [false]
  | _ => none, fun g xs _ => match g with
  | 14 => match xs with
    | [.r (.ro t0_ q0)] => (castL t0_ RTy.str q0).bind fun fields_ => some (res14 (v14 k fields_), bo14 (v14 k fields_))
    | _ => none
  | 13 => match xs with
    | [] => some (res13 (v13 k ), bo13 (v13 k ))
    | _ => none
  | 12 => match xs with
    | [.r (.ro t0_ q0)] => (castL t0_ RTy.str q0).bind fun l_ => some (res12 (v12 k l_), bo12 (v12 k l_))
    | _ => none
  | 15 => match xs with
    | [.r (.ro t0_ q0)] => (castL t0_ RTy.str q0).bind fun fields_ => some (res15 (v15 k fields_), bo15 (v15 k fields_))
    | _ => none
  | _ => none⟩
abbrev R3 : Type := Bool
def res3 (r : R3) : AV := .r (.v (.bool r))
def bo3 (r : R3) : List (Nat × Blk) := []
def f3 (k : Nat) (l_ : List (RTy.str).T) : Option R3 :=
  if ((f12 k l_).isSome = true) then
    bif (v12 k l_) then
      if ((f13 k ).isSome = true) then
        some (v13 k)
      else none
    else
      if ((f14 k l_).isSome = true) then
        if ((f15 k l_).isSome = true) then
          bif ((v14 k l_).fst.toList == (v15 k l_).fst.toList && (v14 k l_).snd == (v15 k l_).snd) then
            if (((v14 k l_).fst.toList == (v15 k l_).fst.toList && (v14 k l_).snd == (v15 k l_).snd) = true) ∧ ((f13 k ).isSome = true) then
              some (true && v13 k)
            else none
          else
            if (((v14 k l_).fst.toList == (v15 k l_).fst.toList && (v14 k l_).snd == (v15 k l_).snd) = false) then
              some false
            else none
        else none
      else none
  else none
def args3 (l_ : List (RTy.str).T) : List AV := [.r (.ro RTy.str l_)]
def v3 (k : Nat) (l_ : List (RTy.str).T) : R3 := (f3 k l_).getD false
theorem of3 (k : Nat) (l_ : List (RTy.str).T) (r : R3) (h : f3 k l_ = some r) : CC Tryd.prog 3 (args3 l_) [] (res3 r) (bo3 r) := by
  refine CC.of (fn := Tryd.f3) (by kernel_rfl) (by kernel_rfl) (by kernel_rfl) (by kernel_rfl) ?_
  unfold f3 at h
  refine Ev.tree hm (R := Rt) (K := (K3 k)) (l := []) (C := []) (E := [.auto [2] true]) (n := 1000) (T := .need [CC Tryd.prog 12 (args12 l_) [] (res12 (v12 k l_)) (bo12 (v12 k l_))] (.test ((v12 k l_)) (.need [CC Tryd.prog 13 (args13 ) [] (res13 (v13 k )) (bo13 (v13 k ))] (.leaf (res3 (v13 k)) (bo3 (v13 k)))) (.need [CC Tryd.prog 14 (args14 l_) [] (res14 (v14 k l_)) (bo14 (v14 k l_))] (.need [CC Tryd.prog 15 (args15 l_) [] (res15 (v15 k l_)) (bo15 (v15 k l_))] (.test (((v14 k l_).fst.toList == (v15 k l_).fst.toList && (v14 k l_).snd == (v15 k l_).snd)) (.need [((v14 k l_).fst.toList == (v15 k l_).fst.toList && (v14 k l_).snd == (v15 k l_).snd) = true, CC Tryd.prog 13 (args13 ) [] (res13 (v13 k )) (bo13 (v13 k ))] (.leaf (res3 (true && v13 k)) (bo3 (true && v13 k)))) (.need [((v14 k l_).fst.toList == (v15 k l_).fst.toList && (v14 k l_).snd == (v15 k l_).snd) = false] (.leaf (res3 false) (bo3 false)))))))) (by kernel_rfl) ?_
  by_cases q : ((f12 k l_).isSome = true)
  · rw [if_pos q] at h
    refine ⟨(conjC (cc12 k l_ q) conj0), ?_⟩
    refine ⟨fun c => ?_, fun c => ?_⟩
    · rw [cond_t c] at h
      by_cases q : ((f13 k ).isSome = true)
      · rw [if_pos q] at h
        refine ⟨(conjC (cc13 k  q) conj0), ?_⟩
        cases h; exact ⟨rfl, rfl⟩
      · rw [if_neg q] at h; cases h
    · rw [cond_f c] at h
      by_cases q : ((f14 k l_).isSome = true)
      · rw [if_pos q] at h
        refine ⟨(conjC (cc14 k l_ q) conj0), ?_⟩
        by_cases q : ((f15 k l_).isSome = true)
        · rw [if_pos q] at h
          refine ⟨(conjC (cc15 k l_ q) conj0), ?_⟩
          refine ⟨fun c => ?_, fun c => ?_⟩
          · rw [cond_t c] at h
            by_cases q : (((v14 k l_).fst.toList == (v15 k l_).fst.toList && (v14 k l_).snd == (v15 k l_).snd) = true) ∧ ((f13 k ).isSome = true)
            · rw [if_pos q] at h
              refine ⟨(conjC q.1 (conjC (cc13 k  q.2) conj0)), ?_⟩
              cases h; exact ⟨rfl, rfl⟩
            · rw [if_neg q] at h; cases h
          · rw [cond_f c] at h
            by_cases q : (((v14 k l_).fst.toList == (v15 k l_).fst.toList && (v14 k l_).snd == (v15 k l_).snd) = false)
            · rw [if_pos q] at h
              refine ⟨(conjC q conj0), ?_⟩
              cases h; exact ⟨rfl, rfl⟩
            · rw [if_neg q] at h; cases h
        · rw [if_neg q] at h; cases h
      · rw [if_neg q] at h; cases h
  · rw [if_neg q] at h; cases h
theorem cc3 (k : Nat) (l_ : List (RTy.str).T) (h : (f3 k l_).isSome = true) : CC Tryd.prog 3 (args3 l_) [] (res3 (v3 k l_)) (bo3 (v3 k l_)) := by
  cases e : f3 k l_ with
  | none => rw [e] at h; cases h
  | some r => rw [show v3 k l_ = r by simp [v3, e]]; exact of3 k l_ r e

end
end Go.AM
namespace Go.AM
open Go Go.Proofs Go.Lib

theorem frm_q {s : ByteArray} (h : qt s.data.toList = true) : ByteArray.mk #[34] ++ mkL (esc s.data.toList) ++ ByteArray.mk #[34] = frm s := by
  rw [quo, frm, if_pos h]; rfl
theorem v30_s (k : Nat) (s : ByteArray) (h : chk s = 0) : v30 k s = qt s.data.toList := by unfold v30; rw [f30_s k s h]; rfl
theorem v29_s (k : Nat) (hk : 300 ≤ k) (s : ByteArray) : v29 k s = chk s := by unfold v29; rw [f29_s k hk s]; rfl

theorem f14_b (k : Nat) (hk : 300 ≤ k) (l : List ByteArray) (hl : l.length ≤ 2000) (hc : ∀ s ∈ l, chk s = 0) : ∀ (j i : Nat) (acc : ByteArray), i ≤ l.length → l.length - i < j → acc.size ≤ 1024 →
    f14_10 k j acc l (l.length : Int) (i : Int) = some (jn (decide (0 < i)) acc (l.drop i))
  | 0, i, _, _, h, _ => by omega
  | j + 1, i, acc, hi, hj, ha => by
    unfold f14_10
    by_cases hlt : i < l.length
    · have hd := drop_cons' l i RTy.str.dflt hlt
      rw [decide_eq_true (by omega : (i : Int) < (l.length : Int)), cond_true, hd, show ((i : Nat) : Int).toNat = i from rfl, if_pos ⟨by omega, by omega⟩]
      have hs : chk (l.getD i RTy.str.dflt) = 0 := hc _ (by rw [List.getD_eq_getElem?_getD, List.getElem?_eq_getElem hlt]; exact List.getElem_mem hlt)
      generalize l.getD i RTy.str.dflt = s at hs
      have h256 := (chk0 hs).1
      have hfs := frm_size s h256
      have h1 : ((acc.size + (ByteArray.mk #[(32 : UInt8)]).size : Nat) : Int) ≤ 9223372036854775807 := by
        rw [show (ByteArray.mk #[(32 : UInt8)]).size = 1 from rfl]; omega
      have h2 : (((acc ++ ByteArray.mk #[(32 : UInt8)]).size + (frm s).size : Nat) : Int) ≤ 9223372036854775807 := by
        rw [app_size, show (ByteArray.mk #[(32 : UInt8)]).size = 1 from rfl]; omega
      have h3 : ((acc.size + (frm s).size : Nat) : Int) ≤ 9223372036854775807 := by omega
      have h4 : ((acc.size + s.size : Nat) : Int) ≤ 9223372036854775807 := by omega
      have el := esc_len s.data.toList
      rw [size_len] at el
      have h5 : (((ByteArray.mk #[(34 : UInt8)]).size + (mkL (esc s.data.toList)).size : Nat) : Int) ≤ 9223372036854775807 := by
        rw [show (ByteArray.mk #[(34 : UInt8)]).size = 1 from rfl, mkL_size]; omega
      have h6 : (((ByteArray.mk #[(34 : UInt8)] ++ mkL (esc s.data.toList)).size + (ByteArray.mk #[(34 : UInt8)]).size : Nat) : Int) ≤ 9223372036854775807 := by
        rw [app_size, show (ByteArray.mk #[(34 : UInt8)]).size = 1 from rfl, mkL_size]; omega
      have ih := fun a => f14_b k hk l hl hc j (i + 1) a (by omega) (by omega)
      rw [decide_eq_true (by omega : 0 < i + 1)] at ih
      rw [f30_s k s hs, v30_s k s hs, if_some, hmx, wrapS i (by omega), jn]
      cases hq : qt s.data.toList
      · have hf : frm s = s := by rw [frm, hq]; rfl
        rw [cond_false]
        rw [hf] at h2 ⊢
        by_cases h0 : 0 < i
        · rw [decide_eq_true (by omega : (i : Int) > 0), cond_true, if_pos h1, if_pos h2, decide_eq_true h0, if_pos (c := true = true) rfl]
          by_cases hb : 1024 < (acc ++ ByteArray.mk #[32] ++ s).size
          · rw [decide_eq_true (by omega : ((acc ++ ByteArray.mk #[32] ++ s).size : Int) > 1024), cond_true, if_pos hb]
          · rw [decide_eq_false (by omega : ¬ ((acc ++ ByteArray.mk #[32] ++ s).size : Int) > 1024), cond_false, if_neg hb, ih _ (by omega)]
        · rw [decide_eq_false (by omega : ¬ (i : Int) > 0), cond_false, if_pos h4, decide_eq_false h0, if_neg (c := false = true) Bool.false_ne_true]
          by_cases hb : 1024 < (acc ++ s).size
          · rw [decide_eq_true (by omega : ((acc ++ s).size : Int) > 1024), cond_true, if_pos hb]
          · rw [decide_eq_false (by omega : ¬ ((acc ++ s).size : Int) > 1024), cond_false, if_neg hb, ih _ (by omega)]
      · rw [cond_true, f31_a k s (by omega), v31_a k s (by omega), if_some, f31_c k s h256, v31_c k s h256, if_pos ⟨rfl, h5, h6⟩, frm_q hq]
        by_cases h0 : 0 < i
        · rw [decide_eq_true (by omega : (i : Int) > 0), cond_true, if_pos h1, if_pos h2, decide_eq_true h0, if_pos (c := true = true) rfl]
          by_cases hb : 1024 < (acc ++ ByteArray.mk #[32] ++ frm s).size
          · rw [decide_eq_true (by omega : ((acc ++ ByteArray.mk #[32] ++ frm s).size : Int) > 1024), cond_true, if_pos hb]
          · rw [decide_eq_false (by omega : ¬ ((acc ++ ByteArray.mk #[32] ++ frm s).size : Int) > 1024), cond_false, if_neg hb, ih _ (by omega)]
        · rw [decide_eq_false (by omega : ¬ (i : Int) > 0), cond_false, if_pos h3, decide_eq_false h0, if_neg (c := false = true) Bool.false_ne_true]
          by_cases hb : 1024 < (acc ++ frm s).size
          · rw [decide_eq_true (by omega : ((acc ++ frm s).size : Int) > 1024), cond_true, if_pos hb]
          · rw [decide_eq_false (by omega : ¬ ((acc ++ frm s).size : Int) > 1024), cond_false, if_neg hb, ih _ (by omega)]
    · have : l.drop i = [] := List.drop_of_length_le (by omega)
      rw [decide_eq_false (by omega : ¬ (i : Int) < (l.length : Int)), cond_false, this]; rfl
end Go.AM
namespace Go.AM
open Go Go.Proofs Go.Lib

theorem f15_c (k : Nat) (l : List ByteArray) (hl : l.length ≤ 2000) (m : Nat) (hm : m < l.length) (s : ByteArray) (hs : l.getD m RTy.str.dflt = s) (h256 : s.size ≤ 256) (acc : ByteArray) : ∀ (j i : Nat), i ≤ s.size → s.size - i < j →
    f15_8 k j l acc (m : Int) (i : Int) = if (s.data.toList.drop i).all okB = true then f15_3 k (j - (s.size - i) - 1) l acc ((m + 1 : Nat) : Int) else some (ByteArray.mk #[], 3)
  | 0, i, _, h => by omega
  | j + 1, i, hi, hj => by
    unfold f15_8
    rw [if_pos ⟨by omega, by omega⟩, show ((m : Nat) : Int).toNat = m from rfl, hs]
    by_cases hlt : i < s.size
    · obtain ⟨b, hb, hd⟩ := drop_at s i hlt
      rw [decide_eq_true (by omega : (i : Int) < (s.size : Int)), cond_true, hd, List.all_cons, if_pos ⟨by omega, by omega, by omega, by omega, fun _ => by omega, fun _ => by omega, fun _ => by omega, fun _ => by omega⟩, bAt_get s i b hb, wrapS i (by omega)]
      cases hc : okB b
      · have : (decide ((b.toNat : Int) < 32) || decide ((b.toNat : Int) > 126)) = true := by
          unfold okB at hc
          simp only [Bool.and_eq_false_iff, decide_eq_false_iff_not] at hc
          simp only [Bool.or_eq_true, decide_eq_true_eq]
          omega
        rw [this]
        simp
      · have : (decide ((b.toNat : Int) < 32) || decide ((b.toNat : Int) > 126)) = false := by
          unfold okB at hc
          simp only [Bool.and_eq_true, decide_eq_true_eq] at hc
          simp only [Bool.or_eq_false_iff, decide_eq_false_iff_not]
          omega
        rw [this, cond_false, Bool.true_and, f15_c k l hl m hm s hs h256 acc j (i + 1) (by omega) (by omega), show j - (s.size - (i + 1)) - 1 = j + 1 - (s.size - i) - 1 by omega]
    · have : s.data.toList.drop i = [] := List.drop_of_length_le (by rw [size_len]; omega)
      rw [decide_eq_false (by omega : ¬ (i : Int) < (s.size : Int)), cond_false, this, wrapS m (by omega), show s.size - i = 0 by omega]
      simp

def fin (l : List ByteArray) (e : Int) : ByteArray × Int := if e = 0 then jn false (ByteArray.mk #[]) l else (ByteArray.mk #[], e)

theorem chkAll_in : ∀ {l : List ByteArray}, chkAll l = 0 → ∀ s ∈ l, chk s = 0
  | [], _, s, h => by cases h
  | x :: r, e, s, h => by
    rw [chkAll] at e
    by_cases hx : chk x = 0
    · rw [if_pos hx] at e
      rcases List.mem_cons.1 h with rfl | h
      · exact hx
      · exact chkAll_in e s h
    · rw [if_neg hx] at e; exact absurd e hx

set_option maxRecDepth 20000 in
theorem f15_a (k : Nat) (hk : 300 ≤ k) (l : List ByteArray) (hl : l.length ≤ 2000) : ∀ (n m j : Nat), l.length - m = n → m ≤ l.length → (l.length - m) * 300 + 3000 < j → (chkAll (l.drop m) = 0 → ∀ s ∈ l, chk s = 0) →
    f15_3 k j l (ByteArray.mk #[]) (m : Int) = some (fin l (chkAll (l.drop m)))
  | 0, m, j, hn, hm, hj, hc => by
    obtain ⟨j, rfl⟩ : ∃ i, j = i + 1 := ⟨j - 1, by omega⟩
    have hd : l.drop m = [] := List.drop_of_length_le (by omega)
    unfold f15_3
    rw [hd] at hc ⊢
    rw [decide_eq_false (by omega : ¬ (m : Int) < (l.length : Int)), cond_false]
    exact f15_b k hk l hl (hc rfl) j 0 _ (by omega) (by omega) (by decide)
  | n + 1, m, j, hn, hm, hj, hc => by
    obtain ⟨j, rfl⟩ : ∃ i, j = i + 1 := ⟨j - 1, by omega⟩
    have hlt : m < l.length := by omega
    have hd := drop_cons' l m RTy.str.dflt hlt
    obtain ⟨s, hs⟩ : ∃ s, l.getD m RTy.str.dflt = s := ⟨_, rfl⟩
    rw [hs] at hd
    unfold f15_3
    rw [decide_eq_true (by omega : (m : Int) < (l.length : Int)), cond_true, if_pos ⟨by omega, by omega⟩, show ((m : Nat) : Int).toNat = m from rfl, hs]
    rw [hd, chkAll] at hc ⊢
    by_cases h : 256 < s.size
    · have e : chk s = 8 := by rw [chk, if_pos h]
      rw [decide_eq_true (by omega : (s.size : Int) > 256), cond_true, e]; rfl
    · rw [decide_eq_false (by omega : ¬ (s.size : Int) > 256), cond_false]
      have := f15_c k l hl m hlt s hs (by omega) (ByteArray.mk #[]) j 0 (by omega) (by omega)
      rw [show ((0 : Nat) : Int) = 0 from rfl, List.drop_zero] at this
      rw [this]
      by_cases ha : s.data.toList.all okB = true
      · have e : chk s = 0 := by rw [chk, if_neg h, if_pos ha]
        rw [if_pos ha, e, if_pos rfl]
        exact f15_a k hk l hl n (m + 1) _ (by omega) (by omega) (by omega) (fun h0 => hc (by rw [e, if_pos rfl]; exact h0))
      · have e : chk s = 3 := by rw [chk, if_neg h, if_neg ha]
        rw [if_neg ha, e]; rfl

theorem f14_a (k : Nat) (hk : 300 ≤ k) (l : List ByteArray) (hl : l.length ≤ 2000) : ∀ (n m j : Nat), l.length - m = n → m ≤ l.length → (l.length - m) + 3000 < j → (chkAll (l.drop m) = 0 → ∀ s ∈ l, chk s = 0) →
    f14_2 k j l l (l.length : Int) (m : Int) = some (fin l (chkAll (l.drop m)))
  | 0, m, j, hn, hm, hj, hc => by
    obtain ⟨j, rfl⟩ : ∃ i, j = i + 1 := ⟨j - 1, by omega⟩
    have hd : l.drop m = [] := List.drop_of_length_le (by omega)
    unfold f14_2
    rw [hd] at hc ⊢
    rw [decide_eq_false (by omega : ¬ (m : Int) < (l.length : Int)), cond_false]
    exact f14_b k hk l hl (hc rfl) j 0 _ (by omega) (by omega) (by decide)
  | n + 1, m, j, hn, hm, hj, hc => by
    obtain ⟨j, rfl⟩ : ∃ i, j = i + 1 := ⟨j - 1, by omega⟩
    have hlt : m < l.length := by omega
    have hd := drop_cons' l m RTy.str.dflt hlt
    obtain ⟨s, hs⟩ : ∃ s, l.getD m RTy.str.dflt = s := ⟨_, rfl⟩
    rw [hs] at hd
    unfold f14_2
    rw [decide_eq_true (by omega : (m : Int) < (l.length : Int)), cond_true, if_pos ⟨by omega, by omega⟩, show ((m : Nat) : Int).toNat = m from rfl, hs, f29_s k hk s, v29_s k hk s, if_some]
    rw [hd, chkAll] at hc ⊢
    by_cases e : chk s = 0
    · rw [e, if_pos rfl, wrapS m (by omega)]
      exact f14_a k hk l hl n (m + 1) _ (by omega) (by omega) (by omega) (fun h0 => hc (by rw [e, if_pos rfl]; exact h0))
    · rw [if_neg e, show (chk s != 0) = true by simpa using e, cond_true, fin, if_neg e]

theorem f12_l (k : Nat) (l : List ByteArray) (hl : l.length ≤ 2000) : ∀ (j i : Nat), i ≤ l.length → l.length - i < j → ∃ r, f12_4 k j l (i : Int) = some r
  | 0, i, _, h => by omega
  | j + 1, i, hi, hj => by
    unfold f12_4
    by_cases hlt : i < l.length
    · rw [decide_eq_true (by omega : (i : Int) < (l.length : Int)), cond_true, if_pos ⟨by omega, by omega⟩, wrapS i (by omega)]
      cases decide ((ByteArray.size (l.getD (i : Int).toNat RTy.str.dflt) : Int) > 600)
      · exact f12_l k l hl j (i + 1) (by omega) (by omega)
      · exact ⟨_, rfl⟩
    · rw [decide_eq_false (by omega : ¬ (i : Int) < (l.length : Int))]; exact ⟨_, rfl⟩

def KJ : Nat := 40000
theorem f13_n (n : Nat) : f13 (n + 600) = some true := by kernel_rfl
theorem f13_J : f13 KJ = some true := f13_n 39400
theorem f3_k (k : Nat) (hk : 40000 ≤ k) (h13 : f13 k = some true) (l : List ByteArray) : f3 k l = some true := by
  have v13e : v13 k = true := by unfold v13; rw [h13]; rfl
  by_cases hl : 100 < l.length
  · have h12 : f12 k l = some true := by
      unfold f12; rw [decide_eq_true (by omega : (l.length : Int) > 100)]; rfl
    have v12e : v12 k l = true := by unfold v12; rw [h12]; rfl
    unfold f3
    rw [h12, v12e, if_some, cond_true, h13, v13e, if_some]
  · obtain ⟨r, h12⟩ : ∃ r, f12 k l = some r := by
      unfold f12; rw [decide_eq_false (by omega : ¬ (l.length : Int) > 100)]
      have := f12_l k l (by omega) k 0 (by omega) (by omega)
      rw [show ((0 : Nat) : Int) = 0 from rfl] at this
      exact this
    have v12e : v12 k l = r := by unfold v12; rw [h12]; rfl
    have h14 : f14 k l = some (fin l (chkAll l)) := by
      unfold f14
      have := f14_a k (by omega) l (by omega) l.length 0 k (by omega) (by omega) (by omega) (fun h => chkAll_in h)
      rw [show ((0 : Nat) : Int) = 0 from rfl, List.drop_zero] at this
      exact this
    have h15 : f15 k l = some (fin l (chkAll l)) := by
      unfold f15
      have := f15_a k (by omega) l (by omega) l.length 0 k (by omega) (by omega) (by omega) (fun h => chkAll_in h)
      rw [show ((0 : Nat) : Int) = 0 from rfl, List.drop_zero] at this
      exact this
    have v14e : v14 k l = fin l (chkAll l) := by unfold v14; rw [h14]; rfl
    have v15e : v15 k l = fin l (chkAll l) := by unfold v15; rw [h15]; rfl
    unfold f3
    rw [h12, v12e, if_some, h13, v13e, h14, h15, v14e, v15e]
    cases r <;> simp
theorem f3_j (l : List ByteArray) : f3 KJ l = some true := f3_k KJ (Nat.le_refl 40000) f13_J l
end Go.AM
namespace Go.AM
open Go Go.Proofs Go.Lib

/-! ### splitting, over lists of bytes -/
/-- what a field in quotation marks is, behind the first one: the field, and what follows -/
def unq : List UInt8 → List UInt8 → Option (List UInt8 × List UInt8)
  | _, [] => none
  | acc, b :: r => if b = 34 then some (acc, r) else if b = 92 then (match r with
      | [] => none
      | c :: r' => if c = 34 ∨ c = 92 then unq (acc ++ [c]) r' else none) else unq (acc ++ [b]) r

/-- the reference's -/
def qtd : List UInt8 → List UInt8 → List UInt8 × List UInt8
  | acc, [] => (acc, [])
  | acc, b :: r => if b = 34 then (acc, r) else if b = 92 then (match r with
      | [] => (acc ++ [b], [])
      | c :: r' => qtd (acc ++ [c]) r') else qtd (acc ++ [b]) r

theorem unq_nil (acc : List UInt8) : unq acc [] = none := by rw [unq.eq_def]
theorem unq_cons (acc : List UInt8) (b : UInt8) (r : List UInt8) : unq acc (b :: r) = if b = 34 then some (acc, r) else if b = 92 then (match r with
      | [] => none
      | c :: r' => if c = 34 ∨ c = 92 then unq (acc ++ [c]) r' else none) else unq (acc ++ [b]) r := by rw [unq.eq_def]
theorem qtd_cons (acc : List UInt8) (b : UInt8) (r : List UInt8) : qtd acc (b :: r) = if b = 34 then (acc, r) else if b = 92 then (match r with
      | [] => (acc ++ [b], [])
      | c :: r' => qtd (acc ++ [c]) r') else qtd (acc ++ [b]) r := by rw [qtd.eq_def]
theorem unq_esc : ∀ (s acc r : List UInt8), unq acc (esc s ++ 34 :: r) = some (acc ++ s, r)
  | [], acc, r => by rw [show esc [] ++ 34 :: r = 34 :: r from rfl, unq_cons, if_pos rfl, List.append_nil]
  | b :: s, acc, r => by
    have ih := unq_esc s (acc ++ [b]) r
    have he : esc (b :: s) = (if b = 34 ∨ b = 92 then [92, b] else [b]) ++ esc s := by rw [esc, List.flatMap_cons]; rfl
    rw [he]
    by_cases h : b = 34 ∨ b = 92
    · rw [if_pos h, List.append_assoc, List.cons_append, List.cons_append, List.nil_append, unq_cons, if_neg (by decide), if_pos rfl]
      simp only [if_pos h]
      rw [ih]; simp
    · rw [if_neg h, List.append_assoc, List.cons_append, List.nil_append, unq_cons, if_neg (fun e => h (.inl e)), if_neg (fun e => h (.inr e)), ih]; simp
theorem qtd_esc : ∀ (s acc r : List UInt8), qtd acc (esc s ++ 34 :: r) = (acc ++ s, r)
  | [], acc, r => by rw [show esc [] ++ 34 :: r = 34 :: r from rfl, qtd_cons, if_pos rfl, List.append_nil]
  | b :: s, acc, r => by
    have ih := qtd_esc s (acc ++ [b]) r
    have he : esc (b :: s) = (if b = 34 ∨ b = 92 then [92, b] else [b]) ++ esc s := by rw [esc, List.flatMap_cons]; rfl
    rw [he]
    by_cases h : b = 34 ∨ b = 92
    · rw [if_pos h, List.append_assoc, List.cons_append, List.cons_append, List.nil_append, qtd_cons, if_neg (by decide), if_pos rfl]
      simp only
      rw [ih]; simp
    · rw [if_neg h, List.append_assoc, List.cons_append, List.nil_append, qtd_cons, if_neg (fun e => h (.inl e)), if_neg (fun e => h (.inr e)), ih]; simp
theorem unq_inv : ∀ (n : Nat) (t acc s r : List UInt8), t.length ≤ n → unq acc t = some (s, r) → ∃ u, s = acc ++ u ∧ t = esc u ++ 34 :: r
  | n, [], acc, s, r, hn, h => by rw [unq_nil] at h; cases h
  | 0, b :: t, acc, s, r, hn, h => by simp at hn
  | n + 1, b :: t, acc, s, r, hn, h => by
    rw [unq_cons] at h
    by_cases h1 : b = 34
    · rw [if_pos h1] at h
      simp at h
      exact ⟨[], by simp [h.1], by rw [h1, h.2]; rfl⟩
    · rw [if_neg h1] at h
      by_cases h2 : b = 92
      · rw [if_pos h2] at h
        cases t with
        | nil => simp at h
        | cons c t =>
          simp only at h
          by_cases h3 : c = 34 ∨ c = 92
          · rw [if_pos h3] at h
            obtain ⟨u, e1, e2⟩ := unq_inv n t _ s r (by simp at hn; omega) h
            refine ⟨c :: u, by rw [e1]; simp, ?_⟩
            rw [esc, List.flatMap_cons, if_pos h3, h2, e2]; rfl
          · rw [if_neg h3] at h; cases h
      · rw [if_neg h2] at h
        obtain ⟨u, e1, e2⟩ := unq_inv n t _ s r (by simp at hn; omega) h
        refine ⟨b :: u, by rw [e1]; simp, ?_⟩
        rw [esc, List.flatMap_cons, if_neg (fun e => e.elim h1 h2), e2]; rfl

def hd (l : List UInt8) : List UInt8 := l.takeWhile (fun b => !(b == 32))
def tl (l : List UInt8) : List UInt8 := l.dropWhile (fun b => !(b == 32))

/-- one field of a line, and what follows it; none: none -/
def one (l : List UInt8) : Option (List UInt8 × List UInt8) :=
  if l.head? = some 34 then (match unq [] l.tail with
    | some (s, r) => if qt s = true then some (s, r) else none
    | none => none)
  else if hd l = [] then none else if qt (hd l) = true then none else some (hd l, tl l)

def spl : Nat → List UInt8 → List ByteArray → Int × List ByteArray
  | 0, _, _ => (3, [])
  | n + 1, l, acc => match one l with
    | none => (3, [])
    | some (s, r) => if chk (mkL s) = 0 then (match r with
      | [] => (0, acc ++ [mkL s])
      | b :: r' => if b = 32 then spl n r' (acc ++ [mkL s]) else (3, [])) else (3, [])

/-- the line of fields -/
def J : List ByteArray → List UInt8
  | [] => []
  | [s] => (frm s).data.toList
  | s :: r => (frm s).data.toList ++ 32 :: J r

theorem J_cons (s : ByteArray) (r : List ByteArray) : J (s :: r) = (frm s).data.toList ++ (match r with
    | [] => []
    | _ :: _ => 32 :: J r) := by
  cases r with
  | nil => simp [J]
  | cons a b => simp [J]

theorem qt_no {l : List UInt8} (h : qt l = false) : l ≠ [] ∧ ∀ b ∈ l, b ≠ 32 ∧ b ≠ 34 ∧ b ≠ 92 := by
  unfold qt at h
  simp only [Bool.or_eq_false_iff, List.isEmpty_eq_false_iff, List.any_eq_false] at h
  refine ⟨h.1, fun b hb => ?_⟩
  have := h.2 b hb
  simpa using this

theorem hd_app : ∀ (s r : List UInt8), (∀ b ∈ s, b ≠ 32) → (r = [] ∨ ∃ r', r = 32 :: r') → hd (s ++ r) = s ∧ tl (s ++ r) = r
  | [], r, _, hr => by
    rcases hr with rfl | ⟨r', rfl⟩
    · exact ⟨rfl, rfl⟩
    · exact ⟨rfl, rfl⟩
  | b :: s, r, h, hr => by
    have ih := hd_app s r (fun x hx => h x (List.mem_cons_of_mem _ hx)) hr
    have hb : (!(b == 32)) = true := by simpa using h b List.mem_cons_self
    unfold hd tl at ih ⊢
    rw [List.cons_append, List.takeWhile_cons, List.dropWhile_cons, if_pos hb, if_pos hb]
    exact ⟨by rw [ih.1], ih.2⟩

theorem frm_qt {s : ByteArray} (h : qt s.data.toList = true) : (frm s).data.toList = 34 :: esc s.data.toList ++ [34] := by
  unfold frm; rw [if_pos h]
theorem frm_nq {s : ByteArray} (h : qt s.data.toList = false) : frm s = s := by
  unfold frm; rw [if_neg (by rw [h]; decide)]

theorem one_frm (s : ByteArray) (r : List UInt8) (hr : r = [] ∨ ∃ r', r = 32 :: r') : one ((frm s).data.toList ++ r) = some (s.data.toList, r) := by
  cases hq : qt s.data.toList
  · obtain ⟨h1, h2⟩ := qt_no hq
    rw [frm_nq hq]
    obtain ⟨e1, e2⟩ := hd_app s.data.toList r (fun b hb => (h2 b hb).1) hr
    have : ¬ (s.data.toList ++ r).head? = some 34 := by
      cases h : s.data.toList with
      | nil => exact absurd h h1
      | cons b t =>
        have := (h2 b (by rw [h]; exact List.mem_cons_self)).2.1
        simpa using this
    unfold one
    rw [if_neg this, e1, e2, if_neg h1, hq, if_neg (by decide)]
  · rw [frm_qt hq]
    unfold one
    have e1 : (34 :: esc s.data.toList ++ [34] ++ r).head? = some 34 := rfl
    have e2 : (34 :: esc s.data.toList ++ [34] ++ r).tail = esc s.data.toList ++ 34 :: r := by simp
    rw [if_pos e1, e2, unq_esc]
    simp only [List.nil_append]
    rw [if_pos hq]
theorem one_inv {l s r : List UInt8} (h : one l = some (s, r)) : l = (frm (mkL s)).data.toList ++ r := by
  unfold one at h
  by_cases h1 : l.head? = some 34
  · rw [if_pos h1] at h
    cases hu : unq [] l.tail with
    | none => rw [hu] at h; simp at h
    | some p =>
      obtain ⟨s', r'⟩ := p
      rw [hu] at h
      simp only at h
      by_cases hq : qt s' = true
      · rw [if_pos hq] at h
        simp at h
        obtain ⟨rfl, rfl⟩ := h
        obtain ⟨u, e1, e2⟩ := unq_inv _ _ _ _ _ (Nat.le_refl _) hu
        simp at e1
        subst e1
        rw [frm_qt (by rw [mkL_list]; exact hq), mkL_list]
        cases l with
        | nil => simp at h1
        | cons b t =>
          simp at h1 e2
          rw [h1, e2]; simp
      · rw [if_neg hq] at h; cases h
  · rw [if_neg h1] at h
    by_cases h2 : hd l = []
    · rw [if_pos h2] at h; cases h
    · rw [if_neg h2] at h
      by_cases h3 : qt (hd l) = true
      · rw [if_pos h3] at h; cases h
      · rw [if_neg h3] at h
        simp at h
        obtain ⟨rfl, rfl⟩ := h
        rw [frm_nq (by rw [mkL_list]; simpa using h3), mkL_list]
        exact (List.takeWhile_append_dropWhile (p := fun b => !(b == 32)) (l := l)).symm

theorem spl_J : ∀ (n : Nat) (l acc : List ByteArray), l.length ≤ n → l ≠ [] → (∀ s ∈ l, chk s = 0) → spl n (J l) acc = (0, acc ++ l)
  | n, [], acc, _, h, _ => absurd rfl h
  | 0, s :: l, acc, hn, _, _ => by simp at hn
  | n + 1, s :: l, acc, hn, _, hc => by
    rw [spl, J_cons, one_frm s _ (by cases l <;> simp)]
    have hs := hc s List.mem_cons_self
    simp only [of_list]
    rw [if_pos hs]
    cases l with
    | nil => rfl
    | cons a l =>
      simp only [if_true]
      rw [spl_J n (a :: l) (acc ++ [s]) (by simp at hn ⊢; omega) (by simp) (fun x hx => hc x (List.mem_cons_of_mem _ hx))]
      simp
theorem spl_inv : ∀ (n : Nat) (t : List UInt8) (acc out : List ByteArray), spl n t acc = (0, out) → ∃ l, l ≠ [] ∧ out = acc ++ l ∧ t = J l ∧ (∀ s ∈ l, chk s = 0) ∧ l.length ≤ n
  | 0, t, acc, out, h => by simp [spl] at h
  | n + 1, t, acc, out, h => by
    rw [spl] at h
    cases ho : one t with
    | none => rw [ho] at h; simp at h
    | some p =>
      obtain ⟨s, r⟩ := p
      have hi := one_inv ho
      rw [ho] at h
      simp only at h
      by_cases hc : chk (mkL s) = 0
      · rw [if_pos hc] at h
        cases r with
        | nil =>
          simp at h
          exact ⟨[mkL s], by simp, h.symm, by rw [hi]; simp [J], by simpa using hc, by simp⟩
        | cons b r =>
          simp only at h
          by_cases hb : b = 32
          · rw [if_pos hb] at h
            obtain ⟨l, h1, h2, h3, h4, h5⟩ := spl_inv n r _ out h
            refine ⟨mkL s :: l, by simp, by rw [h2]; simp, ?_, ?_, by simp; omega⟩
            · rw [hi, J_cons, hb, h3]
              cases l with
              | nil => exact absurd rfl h1
              | cons _ _ => rfl
            · intro x hx
              rcases List.mem_cons.1 hx with rfl | hx
              · exact hc
              · exact h4 x hx
          · rw [if_neg hb] at h; simp at h
      · rw [if_neg hc] at h; simp at h
theorem spl_code : ∀ (n : Nat) (t : List UInt8) (acc : List ByteArray), (spl n t acc).1 = 0 ∨ spl n t acc = (3, [])
  | 0, t, acc => .inr rfl
  | n + 1, t, acc => by
    rw [spl]
    cases one t with
    | none => exact .inr rfl
    | some p =>
      obtain ⟨s, r⟩ := p
      simp only
      by_cases hc : chk (mkL s) = 0
      · rw [if_pos hc]
        cases r with
        | nil => exact .inl rfl
        | cons b r =>
          simp only
          by_cases hb : b = 32
          · rw [if_pos hb]; exact spl_code n r _
          · rw [if_neg hb]; exact .inr rfl
      · rw [if_neg hc]; exact .inr rfl

/-! ### the reference's reading -/
def rone (l : List UInt8) : List UInt8 × List UInt8 := if l.head? = some 34 then qtd [] l.tail else (hd l, tl l)
def rp : Nat → List UInt8 → List ByteArray → List ByteArray
  | 0, _, acc => acc
  | n + 1, l, acc => if l = [] then acc else rp n ((rone l).2.drop 1) (acc ++ [mkL (rone l).1])
theorem rone_frm (s : ByteArray) (r : List UInt8) (hr : r = [] ∨ ∃ r', r = 32 :: r') : rone ((frm s).data.toList ++ r) = (s.data.toList, r) := by
  cases hq : qt s.data.toList
  · obtain ⟨h1, h2⟩ := qt_no hq
    rw [frm_nq hq]
    obtain ⟨e1, e2⟩ := hd_app s.data.toList r (fun b hb => (h2 b hb).1) hr
    unfold rone
    rw [e1, e2]
    have : ¬ (s.data.toList ++ r).head? = some 34 := by
      cases h : s.data.toList with
      | nil => exact absurd h h1
      | cons b t =>
        have := (h2 b (by rw [h]; exact List.mem_cons_self)).2.1
        simpa using this
    rw [if_neg this]
  · rw [frm_qt hq]
    unfold rone
    have e1 : (34 :: esc s.data.toList ++ [34] ++ r).head? = some 34 := rfl
    have e2 : (34 :: esc s.data.toList ++ [34] ++ r).tail = esc s.data.toList ++ 34 :: r := by simp
    rw [if_pos e1, e2, qtd_esc, List.nil_append]
theorem J_ne {l : List ByteArray} (h : l ≠ []) : J l ≠ [] := by
  cases l with
  | nil => exact absurd rfl h
  | cons s r =>
    rw [J_cons]
    intro e
    have h1 := (List.append_eq_nil_iff.1 e).1
    cases hq : qt s.data.toList
    · rw [frm_nq hq] at h1
      exact (qt_no hq).1 h1
    · rw [frm_qt hq] at h1; simp at h1
theorem rp_J : ∀ (n : Nat) (l acc : List ByteArray), l.length < n → rp n (J l) acc = acc ++ l
  | 0, l, acc, h => by omega
  | n + 1, [], acc, _ => by simp [rp, J]
  | n + 1, s :: l, acc, h => by
    rw [rp, if_neg (J_ne (by simp)), J_cons, rone_frm s _ (by cases l <;> simp), of_list]
    have e : (match l with
      | [] => []
      | _ :: _ => 32 :: J l).drop 1 = J l := by cases l <;> rfl
    have h2 : l.length < n := by simp only [List.length_cons] at h; omega
    simp only [e]
    rw [rp_J n l (acc ++ [s]) h2]
    simp

/-! ### the line, with its limit -/
theorem jn_J : ∀ (l : List ByteArray) (f : Bool) (acc : ByteArray), acc.size ≤ 1024 → jn f acc l = (match l with
    | [] => (acc, 0)
    | _ :: _ => if (acc.data.toList ++ (if f = true then [32] else []) ++ J l).length ≤ 1024 then (mkL (acc.data.toList ++ (if f = true then [32] else []) ++ J l), 0) else (ByteArray.mk #[], 8))
  | [], f, acc, h => rfl
  | s :: r, f, acc, h => by
    have hx : (if f = true then acc ++ ByteArray.mk #[32] else acc) ++ frm s = mkL (acc.data.toList ++ (if f = true then [32] else []) ++ (frm s).data.toList) := by
      rw [← of_list ((if f = true then acc ++ ByteArray.mk #[32] else acc) ++ frm s)]
      cases f <;> simp [mkL]
    rw [jn, hx, J_cons, mkL_size]
    generalize hA : acc.data.toList ++ (if f = true then [32] else []) ++ (frm s).data.toList = A
    simp only
    rw [← List.append_assoc, hA]
    by_cases hb : 1024 < A.length
    · rw [if_pos hb, if_neg (by rw [List.length_append]; omega)]
    · rw [if_neg hb, jn_J r true (mkL A) (by rw [mkL_size]; omega)]
      cases r with
      | nil => simp only [List.append_nil]; rw [if_pos (by omega)]
      | cons a r => simp only [mkL_list, if_true]; simp
end Go.AM
namespace Go.AM
open Go Go.Proofs
set_option linter.unusedVariables false
noncomputable section
/-! ### function 35: papermill/papermillref07.quoted -/
def K35 (k : Nat) : Calld := ⟨fun g => match g with
  | _ => none, fun g xs _ => match g with
  | _ => none⟩
abbrev R35 : Type := ByteArray × Int
def res35 (r : R35) : AV := .tup [.r (.v (.string r.1)), .r (.v (.int .i64 r.2))]
def bo35 (r : R35) : List (Nat × Blk) := []
def st35_3 (x0 : ByteArray) (x1 : ByteArray) (x2 : Int) : St := ⟨mkS 42 [(0, .r (.v (.string x0))), (4, .r (.v (.string x1))), (5, .r (.v (.int .i64 x2)))], []⟩
def f35_3 (k : Nat) : Nat → ByteArray → ByteArray → Int → Option R35
  | 0, _, _, _ => none
  | j + 1, x0, x1, x2 =>
    bif (decide (x2 < (↑x0.size : Int))) then
      if ((0 : Int) ≤ x2) ∧ (x2 < (↑x0.size : Int)) then
        bif (bAt x0 x2 == (34 : Int)) then
          some ((x1, IntKind.i64.wrap (x2 + 1)))
        else
          if ((0 : Int) ≤ x2) ∧ (x2 < (↑x0.size : Int)) then
            bif (bAt x0 x2 == (92 : Int) && decide (IntKind.i64.wrap (x2 + (1 : Int)) < (↑x0.size : Int))) then
              if ((0 : Int) ≤ IntKind.i64.wrap (x2 + (1 : Int))) ∧ (IntKind.i64.wrap (x2 + (1 : Int)) ≤ IntKind.i64.wrap (IntKind.i64.wrap (x2 + (1 : Int)) + (1 : Int))) ∧ (IntKind.i64.wrap (IntKind.i64.wrap (x2 + (1 : Int)) + (1 : Int)) ≤ (↑x0.size : Int)) ∧ ((↑ (x1.size + (x0.extract (IntKind.i64.wrap (x2 + (1 : Int))).toNat (IntKind.i64.wrap (IntKind.i64.wrap (x2 + (1 : Int)) + (1 : Int))).toNat).size) : Int) ≤ IntKind.i64.max) then
                f35_3 k j x0 ((x1 ++ x0.extract (IntKind.i64.wrap (x2 + 1)).toNat (IntKind.i64.wrap (IntKind.i64.wrap (x2 + 1) + 1)).toNat)) ((IntKind.i64.wrap (IntKind.i64.wrap (x2 + 1) + 1)))
              else none
            else
              if ((0 : Int) ≤ x2) ∧ (x2 ≤ IntKind.i64.wrap (x2 + (1 : Int))) ∧ (IntKind.i64.wrap (x2 + (1 : Int)) ≤ (↑x0.size : Int)) ∧ ((↑ (x1.size + (x0.extract x2.toNat (IntKind.i64.wrap (x2 + (1 : Int))).toNat).size) : Int) ≤ IntKind.i64.max) then
                f35_3 k j x0 ((x1 ++ x0.extract x2.toNat (IntKind.i64.wrap (x2 + 1)).toNat)) ((IntKind.i64.wrap (x2 + 1)))
              else none
          else none
      else none
    else
      some ((x1, (↑x0.size : Int)))
def f35 (k : Nat) (line_ : ByteArray) : Option R35 :=
  f35_3 k k line_ ((ByteArray.mk #[])) 1
def args35 (line_ : ByteArray) : List AV := [.r (.v (.string line_))]
def v35 (k : Nat) (line_ : ByteArray) : R35 := (f35 k line_).getD (ByteArray.empty, 0)
theorem ev35 (k : Nat) : ∀ j, (∀ (x0 : ByteArray) (x1 : ByteArray) (x2 : Int) (r : R35), f35_3 k j x0 x1 x2 = some r → Ev Tryd.prog Tryd.f35 0 (placeAt Tryd.f35 3) (st35_3 x0 x1 x2) (res35 r) (bo35 r))
  | 0 => by
    intros; rename_i h; simp [f35_3] at h
  | j + 1 => by
    have ih := ev35 k j
    · intro x0 x1 x2 r h
      rw [f35_3] at h
      refine Ev.tree hm (R := Rt) (K := (K35 k)) (l := []) (C := [(3, [.auto [0, 4, 5] false])]) (E := [.auto [2, 3] true]) (n := 1000) (T := .test ((decide (x2 < (↑x0.size : Int)))) (.need [(0 : Int) ≤ x2, x2 < (↑x0.size : Int)] (.test ((bAt x0 x2 == (34 : Int))) (.leaf (res35 ((x1, IntKind.i64.wrap (x2 + 1)))) (bo35 ((x1, IntKind.i64.wrap (x2 + 1))))) (.need [(0 : Int) ≤ x2, x2 < (↑x0.size : Int)] (.test ((bAt x0 x2 == (92 : Int) && decide (IntKind.i64.wrap (x2 + (1 : Int)) < (↑x0.size : Int)))) (.need [(0 : Int) ≤ IntKind.i64.wrap (x2 + (1 : Int)), IntKind.i64.wrap (x2 + (1 : Int)) ≤ IntKind.i64.wrap (IntKind.i64.wrap (x2 + (1 : Int)) + (1 : Int)), IntKind.i64.wrap (IntKind.i64.wrap (x2 + (1 : Int)) + (1 : Int)) ≤ (↑x0.size : Int), (↑ (x1.size + (x0.extract (IntKind.i64.wrap (x2 + (1 : Int))).toNat (IntKind.i64.wrap (IntKind.i64.wrap (x2 + (1 : Int)) + (1 : Int))).toNat).size) : Int) ≤ IntKind.i64.max] (.cut 3 (placeAt Tryd.f35 3) (st35_3 x0 ((x1 ++ x0.extract (IntKind.i64.wrap (x2 + 1)).toNat (IntKind.i64.wrap (IntKind.i64.wrap (x2 + 1) + 1)).toNat)) ((IntKind.i64.wrap (IntKind.i64.wrap (x2 + 1) + 1)))))) (.need [(0 : Int) ≤ x2, x2 ≤ IntKind.i64.wrap (x2 + (1 : Int)), IntKind.i64.wrap (x2 + (1 : Int)) ≤ (↑x0.size : Int), (↑ (x1.size + (x0.extract x2.toNat (IntKind.i64.wrap (x2 + (1 : Int))).toNat).size) : Int) ≤ IntKind.i64.max] (.cut 3 (placeAt Tryd.f35 3) (st35_3 x0 ((x1 ++ x0.extract x2.toNat (IntKind.i64.wrap (x2 + 1)).toNat)) ((IntKind.i64.wrap (x2 + 1)))))))))) (.leaf (res35 ((x1, (↑x0.size : Int)))) (bo35 ((x1, (↑x0.size : Int)))))) (by kernel_rfl) ?_
      refine ⟨fun c => ?_, fun c => ?_⟩
      · rw [cond_t c] at h
        by_cases q : ((0 : Int) ≤ x2) ∧ (x2 < (↑x0.size : Int))
        · rw [if_pos q] at h
          refine ⟨(conjC q.1 (conjC q.2 conj0)), ?_⟩
          refine ⟨fun c => ?_, fun c => ?_⟩
          · rw [cond_t c] at h
            cases h; exact ⟨rfl, rfl⟩
          · rw [cond_f c] at h
            by_cases q : ((0 : Int) ≤ x2) ∧ (x2 < (↑x0.size : Int))
            · rw [if_pos q] at h
              refine ⟨(conjC q.1 (conjC q.2 conj0)), ?_⟩
              refine ⟨fun c => ?_, fun c => ?_⟩
              · rw [cond_t c] at h
                by_cases q : ((0 : Int) ≤ IntKind.i64.wrap (x2 + (1 : Int))) ∧ (IntKind.i64.wrap (x2 + (1 : Int)) ≤ IntKind.i64.wrap (IntKind.i64.wrap (x2 + (1 : Int)) + (1 : Int))) ∧ (IntKind.i64.wrap (IntKind.i64.wrap (x2 + (1 : Int)) + (1 : Int)) ≤ (↑x0.size : Int)) ∧ ((↑ (x1.size + (x0.extract (IntKind.i64.wrap (x2 + (1 : Int))).toNat (IntKind.i64.wrap (IntKind.i64.wrap (x2 + (1 : Int)) + (1 : Int))).toNat).size) : Int) ≤ IntKind.i64.max)
                · rw [if_pos q] at h
                  refine ⟨(conjC q.1 (conjC q.2.1 (conjC q.2.2.1 (conjC q.2.2.2 conj0)))), ?_⟩
                  exact ih x0 ((x1 ++ x0.extract (IntKind.i64.wrap (x2 + 1)).toNat (IntKind.i64.wrap (IntKind.i64.wrap (x2 + 1) + 1)).toNat)) ((IntKind.i64.wrap (IntKind.i64.wrap (x2 + 1) + 1))) _ h
                · rw [if_neg q] at h; cases h
              · rw [cond_f c] at h
                by_cases q : ((0 : Int) ≤ x2) ∧ (x2 ≤ IntKind.i64.wrap (x2 + (1 : Int))) ∧ (IntKind.i64.wrap (x2 + (1 : Int)) ≤ (↑x0.size : Int)) ∧ ((↑ (x1.size + (x0.extract x2.toNat (IntKind.i64.wrap (x2 + (1 : Int))).toNat).size) : Int) ≤ IntKind.i64.max)
                · rw [if_pos q] at h
                  refine ⟨(conjC q.1 (conjC q.2.1 (conjC q.2.2.1 (conjC q.2.2.2 conj0)))), ?_⟩
                  exact ih x0 ((x1 ++ x0.extract x2.toNat (IntKind.i64.wrap (x2 + 1)).toNat)) ((IntKind.i64.wrap (x2 + 1))) _ h
                · rw [if_neg q] at h; cases h
            · rw [if_neg q] at h; cases h
        · rw [if_neg q] at h; cases h
      · rw [cond_f c] at h
        cases h; exact ⟨rfl, rfl⟩
theorem of35 (k : Nat) (line_ : ByteArray) (r : R35) (h : f35 k line_ = some r) : CC Tryd.prog 35 (args35 line_) [] (res35 r) (bo35 r) := by
  refine CC.of (fn := Tryd.f35) (by kernel_rfl) (by kernel_rfl) (by kernel_rfl) (by kernel_rfl) ?_
  unfold f35 at h
  refine Ev.tree hm (R := Rt) (K := (K35 k)) (l := []) (C := [(3, [.auto [0, 4, 5] false])]) (E := [.auto [2, 3] true]) (n := 1000) (T := .cut 3 (placeAt Tryd.f35 3) (st35_3 line_ ((ByteArray.mk #[])) 1)) (by kernel_rfl) ?_
  exact (ev35 k k) line_ ((ByteArray.mk #[])) 1 _ h
theorem cc35 (k : Nat) (line_ : ByteArray) (h : (f35 k line_).isSome = true) : CC Tryd.prog 35 (args35 line_) [] (res35 (v35 k line_)) (bo35 (v35 k line_)) := by
  cases e : f35 k line_ with
  | none => rw [e] at h; cases h
  | some r => rw [show v35 k line_ = r by simp [v35, e]]; exact of35 k line_ r e

end
end Go.AM
namespace Go.AM
open Go Go.Proofs Go.Lib

theorem bytes8 (l : List UInt8) : bytesOf8 (l.map fun b => (b.toNat : Int)) = mkL l := by
  have h : ∀ (l : List UInt8) (r : ByteArray), (l.map fun b => (b.toNat : Int)).foldl (fun r n => r.push (UInt8.ofNat n.toNat)) r = mkL (r.data.toList ++ l) := fun l => by
    induction l with
    | nil => intro r; simp [of_list]
    | cons b l ih =>
      intro r
      rw [List.map_cons, List.foldl_cons, ih]
      congr 1
      have : (r.push (UInt8.ofNat ((b.toNat : Int)).toNat)).data.toList = r.data.toList ++ [b] := by
        rw [show ((b.toNat : Nat) : Int).toNat = b.toNat from rfl, UInt8.ofNat_toNat]
        show (r.data.push b).toList = _
        simp
      rw [this]; simp
  unfold bytesOf8
  rw [h]; rfl
theorem bAt_lt (s : ByteArray) (i : Nat) (h : i < s.size) : ∃ b, s.data.toList[i]? = some b ∧ bAt s (i : Int) = (b.toNat : Int) ∧ s.data.toList.drop i = b :: s.data.toList.drop (i + 1) := by
  obtain ⟨b, h1, h2⟩ := drop_at s i h
  exact ⟨b, h1, bAt_get s i b h1, h2⟩

theorem f34_l (k : Nat) (s : ByteArray) (hs : s.size ≤ 1000000) : ∀ (j i : Nat) (acc : List UInt8), i ≤ s.size → s.size - i < j → acc.length ≤ i →
    f34_3 k j s (i : Int) (acc.map fun b => (b.toNat : Int)) = some (match unq acc (s.data.toList.drop i) with
      | some (a, r) => (mkL a, ((s.size - r.length : Nat) : Int))
      | none => (ByteArray.mk #[], 0))
  | 0, i, _, _, h, _ => by omega
  | j + 1, i, acc, hi, hj, ha => by
    unfold f34_3
    by_cases hlt : i < s.size
    · obtain ⟨b, hb, hbA, hd⟩ := bAt_lt s i hlt
      rw [decide_eq_true (by omega : (i : Int) < (s.size : Int)), cond_true, if_pos ⟨by omega, by omega⟩, hbA, wrapS i (by omega), hd, unq_cons, q34, q92]
      by_cases h1 : b = 34
      · rw [if_pos h1, show (b == 34) = true by simpa using h1, cond_true, bytes8]
        have : (s.data.toList.drop (i + 1)).length = s.size - (i + 1) := by rw [List.length_drop, size_len]
        simp only [this]
        congr 3
        omega
      · rw [if_neg h1, show (b == 34) = false by simpa using h1, cond_false]
        by_cases h2 : b = 92
        · rw [if_pos h2, show (b == 92) = true by simpa using h2, cond_true]
          by_cases h3 : i + 1 < s.size
          · obtain ⟨c, hc, hcA, hd2⟩ := bAt_lt s (i + 1) h3
            have hne : (((i + 1 : Nat) : Int) == (s.size : Int)) = false := by simp only [beq_eq_false_iff_ne]; omega
            rw [hne, hcA, if_pos ⟨fun _ => by omega, fun _ => by omega, fun _ _ => by omega, fun _ _ => by omega⟩, hd2, Bool.false_or]
            have e1 : ((c.toNat : Int) != 34) = !(c == 34) := by rw [bne, q34]
            have e2 : ((c.toNat : Int) != 92) = !(c == 92) := by rw [bne, q92]
            rw [e1, e2]
            by_cases h4 : c = 34 ∨ c = 92
            · have : (!(c == 34) && !(c == 92)) = false := by rcases h4 with rfl | rfl <;> rfl
              have hm : acc.map (fun b => (b.toNat : Int)) ++ [(c.toNat : Int)] = (acc ++ [c]).map fun b => (b.toNat : Int) := by simp
              rw [this, cond_false, if_pos ⟨by omega, by omega, by rw [List.length_map, List.length_singleton]; omega⟩, wrapS (i + 1) (by omega), hm, f34_l k s hs j (i + 1 + 1) (acc ++ [c]) (by omega) (by omega) (by rw [List.length_append, List.length_singleton]; omega)]
              simp only [if_pos h4]
            · have : (!(c == 34) && !(c == 92)) = true := by
                have a1 : c ≠ 34 := fun e => h4 (.inl e)
                have a2 : c ≠ 92 := fun e => h4 (.inr e)
                simp [a1, a2]
              rw [this, cond_true]
              simp only [if_neg h4]
          · have he : (((i + 1 : Nat) : Int) == (s.size : Int)) = true := by simp only [beq_iff_eq]; omega
            have hd2 : s.data.toList.drop (i + 1) = [] := List.drop_of_length_le (by rw [size_len]; omega)
            rw [he, hd2, if_pos ⟨fun h => (by cases h), fun h => (by cases h), fun h => (by cases h), fun h => (by cases h)⟩]
            rfl
        · have hm : acc.map (fun b => (b.toNat : Int)) ++ [(b.toNat : Int)] = (acc ++ [b]).map fun b => (b.toNat : Int) := by simp
          rw [if_neg h2, show (b == 92) = false by simpa using h2, cond_false, if_pos (by rw [List.length_map, List.length_singleton]; omega), hm, f34_l k s hs j (i + 1) (acc ++ [b]) (by omega) (by omega) (by rw [List.length_append, List.length_singleton]; omega)]
    · have : s.data.toList.drop i = [] := List.drop_of_length_le (by rw [size_len]; omega)
      rw [decide_eq_false (by omega : ¬ (i : Int) < (s.size : Int)), cond_false, this, unq_nil]
theorem f34_s (k : Nat) (s : ByteArray) (hs : s.size ≤ 1000000) (hk : 1000001 ≤ k) (h1 : 1 ≤ s.size) : f34 k s = some (match unq [] (s.data.toList.drop 1) with
      | some (a, r) => (mkL a, ((s.size - r.length : Nat) : Int))
      | none => (ByteArray.mk #[], 0)) := f34_l k s hs k 1 [] h1 (by omega) (by simp)
theorem ext_hd (s : ByteArray) (i : Nat) (b : UInt8) (h : s.data.toList[i]? = some b) : s.extract i (i + 1) = mkL [b] := ext1 s i b h
theorem f35_l (k : Nat) (s : ByteArray) (hs : s.size ≤ 1000000) : ∀ (j i : Nat) (acc : List UInt8), i ≤ s.size → s.size - i < j → acc.length ≤ i →
    f35_3 k j s (mkL acc) (i : Int) = some (mkL (qtd acc (s.data.toList.drop i)).1, ((s.size - (qtd acc (s.data.toList.drop i)).2.length : Nat) : Int))
  | 0, i, _, _, h, _ => by omega
  | j + 1, i, acc, hi, hj, ha => by
    unfold f35_3
    by_cases hlt : i < s.size
    · obtain ⟨b, hb, hbA, hd⟩ := bAt_lt s i hlt
      rw [decide_eq_true (by omega : (i : Int) < (s.size : Int)), cond_true, if_pos ⟨by omega, by omega⟩, hbA, wrapS i (by omega), hd, qtd_cons, q34, q92]
      by_cases h1 : b = 34
      · rw [if_pos h1, show (b == 34) = true by simpa using h1, cond_true]
        have : (s.data.toList.drop (i + 1)).length = s.size - (i + 1) := by rw [List.length_drop, size_len]
        simp only [this]
        congr 3
        omega
      · rw [if_neg h1, show (b == 34) = false by simpa using h1, cond_false, if_pos ⟨by omega, by omega⟩]
        by_cases h2 : b = 92
        · rw [if_pos h2, show (b == 92) = true by simpa using h2, Bool.true_and]
          by_cases h3 : i + 1 < s.size
          · obtain ⟨c, hc, hcA, hd2⟩ := bAt_lt s (i + 1) h3
            rw [decide_eq_true (by omega : ((i + 1 : Nat) : Int) < (s.size : Int)), cond_true, wrapS (i + 1) (by omega), hd2, show ((i + 1 : Nat) : Int).toNat = i + 1 from rfl, show ((i + 1 + 1 : Nat) : Int).toNat = i + 1 + 1 from rfl, ext1 s (i + 1) c hc, mkL_app, mkL_size, mkL_size, hmx]
            have hb4 : ((acc.length + [c].length : Nat) : Int) ≤ 9223372036854775807 := by
              rw [List.length_singleton]; omega
            rw [if_pos ⟨by omega, by omega, by omega, hb4⟩, f35_l k s hs j (i + 1 + 1) (acc ++ [c]) (by omega) (by omega) (by rw [List.length_append, List.length_singleton]; omega)]
          · have hd2 : s.data.toList.drop (i + 1) = [] := List.drop_of_length_le (by rw [size_len]; omega)
            rw [decide_eq_false (by omega : ¬ ((i + 1 : Nat) : Int) < (s.size : Int)), cond_false, hd2, show ((i : Nat) : Int).toNat = i from rfl, show ((i + 1 : Nat) : Int).toNat = i + 1 from rfl, ext1 s i b hb, mkL_app, mkL_size, mkL_size, hmx]
            have hb4 : ((acc.length + [b].length : Nat) : Int) ≤ 9223372036854775807 := by
              rw [List.length_singleton]; omega
            rw [if_pos ⟨by omega, by omega, by omega, hb4⟩, f35_l k s hs j (i + 1) (acc ++ [b]) (by omega) (by omega) (by rw [List.length_append, List.length_singleton]; omega), hd2]
            simp [qtd]
        · rw [if_neg h2, show (b == 92) = false by simpa using h2, Bool.false_and, cond_false, show ((i : Nat) : Int).toNat = i from rfl, show ((i + 1 : Nat) : Int).toNat = i + 1 from rfl, ext1 s i b hb, mkL_app, mkL_size, mkL_size, hmx]
          have hb4 : ((acc.length + [b].length : Nat) : Int) ≤ 9223372036854775807 := by
            rw [List.length_singleton]; omega
          rw [if_pos ⟨by omega, by omega, by omega, hb4⟩, f35_l k s hs j (i + 1) (acc ++ [b]) (by omega) (by omega) (by rw [List.length_append, List.length_singleton]; omega)]
    · have : s.data.toList.drop i = [] := List.drop_of_length_le (by rw [size_len]; omega)
      rw [decide_eq_false (by omega : ¬ (i : Int) < (s.size : Int)), cond_false, this]
      simp [qtd]
theorem f35_s (k : Nat) (s : ByteArray) (hs : s.size ≤ 1000000) (hk : 1000001 ≤ k) (h1 : 1 ≤ s.size) : f35 k s = some (mkL (qtd [] (s.data.toList.drop 1)).1, ((s.size - (qtd [] (s.data.toList.drop 1)).2.length : Nat) : Int)) :=
  f35_l k s hs k 1 [] h1 (by omega) (by simp)
end Go.AM
namespace Go.AM
open Go Go.Proofs Go.Lib

theorem idx_hd (l : List UInt8) : indexByte l 32 = if tl l = [] then -1 else ((hd l).length : Int) := by
  induction l with
  | nil => rfl
  | cons b l ih =>
    unfold hd tl at ih ⊢
    rw [indexByte, List.takeWhile_cons, List.dropWhile_cons, ih]
    by_cases h : b = 32
    · subst h; rfl
    · have h1 : (b == 32) = false := by simpa using h
      rw [h1]
      simp only [Bool.not_false, if_true, Bool.false_eq_true, if_false]
      by_cases h2 : l.dropWhile (fun b => !(b == 32)) = []
      · rw [if_pos h2, if_pos h2]; rfl
      · rw [if_neg h2, if_neg h2]
        have : ¬ (((l.takeWhile (fun b => !(b == 32))).length : Int) == -1) = true := by simp only [beq_iff_eq]; omega
        rw [if_neg this, List.length_cons]; omega
theorem hd_tl (l : List UInt8) : l = hd l ++ tl l := (List.takeWhile_append_dropWhile (p := fun b => !(b == 32)) (l := l)).symm
theorem tl_32 : ∀ l : List UInt8, tl l = [] ∨ ∃ r, tl l = 32 :: r
  | [] => .inl rfl
  | b :: l => by
    unfold tl
    rw [List.dropWhile_cons]
    by_cases h : b = 32
    · subst h; exact .inr ⟨l, rfl⟩
    · have h1 : (b == 32) = false := by simpa using h
      rw [h1]
      exact tl_32 l
theorem f33_s (k : Nat) (l : List UInt8) : f33 k (mkL l) 32 = some (indexByte l 32) := by
  unfold f33
  rw [show Nat.ble 0 (mkL l).size = true from Nat.ble_eq_true_of_le (Nat.zero_le _), mkL_list]; rfl
theorem v33_s (k : Nat) (l : List UInt8) : v33 k (mkL l) 32 = indexByte l 32 := by unfold v33; rw [f33_s]; rfl

theorem pre34 (l : List UInt8) : (decide (((mkL l).size : Int) ≥ ((ByteArray.mk #[34]).size : Int)) && ((mkL l).extract (Int.toNat 0) (((ByteArray.mk #[34]).size : Int)).toNat).toList == (ByteArray.mk #[34]).toList) = (l.head? == some 34) := by
  rw [tl_data, tl_data, mkL_size, show (ByteArray.mk #[34]).size = 1 from rfl, show ((1 : Nat) : Int).toNat = 1 from rfl, show Int.toNat 0 = 0 from rfl]
  have h2 : ((mkL l).extract 0 1).data.toList = l.take 1 := by
    rw [ByteArray.data_extract, Array.toList_extract, List.extract_eq_take_drop, mkL_list]; simp
  rw [h2]
  cases l with
  | nil => rfl
  | cons b l =>
    rw [decide_eq_true (by rw [List.length_cons]; omega), Bool.true_and]
    show ([b] == [34]) = (some b == some 34)
    simp
theorem f26_s (k : Nat) (l : List UInt8) : f26 k (mkL l) (ByteArray.mk #[34]) = some (l.head? == some 34) := by
  have e40 : f40 k (mkL l) (ByteArray.mk #[34]) = some (l.head? == some 34) := by
    unfold f40
    rw [pre34, if_pos ⟨fun _ => by omega, fun _ => by omega, fun h => by simpa using h⟩]
  unfold f26
  have : v40 k (mkL l) (ByteArray.mk #[34]) = (l.head? == some 34) := by unfold v40; rw [e40]; rfl
  rw [e40, this, if_some]
theorem v26_s (k : Nat) (l : List UInt8) : v26 k (mkL l) (ByteArray.mk #[34]) = (l.head? == some 34) := by unfold v26; rw [f26_s]; rfl

theorem f16_15_s (k j : Nat) (l s : List UInt8) (n : Nat) (acc : List ByteArray) (hn : n ≤ l.length) (hl : l.length ≤ 1000000) (ha : acc.length ≤ 1000000) : f16_15 k (j + 1) (mkL l) (mkL s) (n : Int) acc =
    if n < l.length then f16_5 k j (mkL (l.drop (n + 1))) true (acc ++ [mkL s]) else f16_5 k j (mkL l) false (acc ++ [mkL s]) := by
  unfold f16_15
  rw [if_pos (by rw [List.length_singleton]; omega), mkL_size, wrapS n (by omega)]
  by_cases h : n < l.length
  · rw [decide_eq_true (by omega : (n : Int) < (l.length : Int)), cond_true, if_pos h, if_pos ⟨by omega, by omega, by omega⟩]
    congr 1
    rw [← of_list ((mkL l).extract _ _), ByteArray.data_extract, Array.toList_extract, List.extract_eq_take_drop, mkL_list]
    congr 1
    rw [show ((n + 1 : Nat) : Int).toNat = n + 1 from rfl, show ((l.length : Nat) : Int).toNat = l.length from rfl]
    exact List.take_of_length_le (by rw [List.length_drop]; omega)
  · rw [decide_eq_false (by omega : ¬ (n : Int) < (l.length : Int)), cond_false, if_neg h]

theorem f16_13_s (k : Nat) (hk : 300 ≤ k) (j : Nat) (l s : List UInt8) (n : Nat) (o : Bool) (acc : List ByteArray) (hn : n ≤ l.length) (hs : s.length ≤ 1000000000) : f16_13 k (j + 1) (mkL l) (mkL s) (n : Int) o acc =
    if n = 0 ∨ qt s ≠ o ∨ chk (mkL s) ≠ 0 ∨ (n < l.length ∧ l.getD n 0 ≠ 32) then some (3, []) else f16_15 k j (mkL l) (mkL s) (n : Int) acc := by
  unfold f16_13
  have e30 : f30 k (mkL s) = some (qt s) := by rw [f30_a k _ (by rw [mkL_size]; exact hs), mkL_list]
  have w30 : v30 k (mkL s) = qt s := by unfold v30; rw [e30]; rfl
  rw [e30, w30, f29_s k hk, v29_s k hk, mkL_size]
  have hb : bAt (mkL l) (n : Int) = ((l.getD n 0).toNat : Int) := by unfold bAt; rw [mkL_list]; rfl
  rw [hb]
  by_cases h0 : n = 0
  · have hP : (n = 0 ∨ qt s ≠ o ∨ chk (mkL s) ≠ 0 ∨ (n < l.length ∧ l.getD n 0 ≠ 32)) := .inl h0
    rw [if_pos hP, show ((n : Int) == 0) = true by simp [h0], cond_true, if_pos ⟨rfl, rfl, fun h => (by cases h), fun h => (by cases h)⟩]
    rfl
  · rw [show ((n : Int) == 0) = false by simp only [beq_eq_false_iff_ne]; omega, cond_false]
    by_cases h1 : qt s = o
    · rw [show (!qt s == o) = false by simp [h1], show (false || false) = false from rfl, cond_false]
      by_cases h2 : chk (mkL s) = 0
      · rw [show (chk (mkL s) != 0) = false by simp [h2], show (false || false) = false from rfl, if_pos ⟨rfl, rfl, rfl, rfl, fun _ h => by omega, fun _ h => by simpa using h⟩]
        by_cases h3 : n < l.length
        · rw [decide_eq_true (by omega : (n : Int) < (l.length : Int)), Bool.false_or, Bool.true_and]
          have e : (((l.getD n 0).toNat : Int) != 32) = !(l.getD n 0 == 32) := by rw [bne, show (32 : Int) = ((32 : Nat) : Int) from rfl, u_eq _ 32 (by omega)]; rfl
          rw [e]
          by_cases h4 : l.getD n 0 = 32
          · rw [h4, if_neg (by simp [h0, h1, h2])]; rfl
          · rw [show (l.getD n 0 == 32) = false by simpa using h4, if_pos (.inr (.inr (.inr ⟨h3, h4⟩)))]; rfl
        · rw [decide_eq_false (by omega : ¬ (n : Int) < (l.length : Int)), if_neg (by simp [h0, h1, h2, h3])]; rfl
      · have hP : (n = 0 ∨ qt s ≠ o ∨ chk (mkL s) ≠ 0 ∨ (n < l.length ∧ l.getD n 0 ≠ 32)) := .inr (.inr (.inl h2))
        rw [show (chk (mkL s) != 0) = true by simpa using h2, if_pos hP, if_pos ⟨rfl, rfl, rfl, rfl, fun h => (by cases h), fun h => (by cases h)⟩]
        rfl
    · have hP : (n = 0 ∨ qt s ≠ o ∨ chk (mkL s) ≠ 0 ∨ (n < l.length ∧ l.getD n 0 ≠ 32)) := .inr (.inl h1)
      rw [show (!qt s == o) = true by simpa using h1, if_pos hP, show (false || true) = true from rfl, cond_true, if_pos ⟨rfl, rfl, rfl, fun h => (by cases h), fun h => (by cases h)⟩]
      rfl

theorem take_hd (l : List UInt8) : (mkL l).extract (Int.toNat 0) ((hd l).length : Int).toNat = mkL (hd l) := by
  rw [← of_list ((mkL l).extract _ _), ByteArray.data_extract, Array.toList_extract, List.extract_eq_take_drop, mkL_list, show ((hd l).length : Int).toNat = (hd l).length from rfl, show Int.toNat 0 = 0 from rfl, List.drop_zero, Nat.sub_zero]
  congr 1
  conv => lhs; arg 2; rw [hd_tl l]
  exact List.take_left

theorem f16_loop (k : Nat) (hk : 1000001 ≤ k) : ∀ (n : Nat) (l : List UInt8) (acc : List ByteArray) (j : Nat), l.length < n → 4 * n ≤ j → l.length ≤ 2000 → acc.length + l.length ≤ 5000 → f16_5 k j (mkL l) true acc = some (spl n l acc)
  | 0, l, acc, j, h, _, _, _ => by omega
  | n + 1, l, acc, j, hn, hj, hl, ha => by
    obtain ⟨j, rfl⟩ : ∃ i, j = i + 4 := ⟨j - 4, by omega⟩
    have hdl : (hd l).length ≤ l.length := by
      have := congrArg List.length (hd_tl l); rw [List.length_append] at this; omega
    have step5 : f16_5 k (j + 4) (mkL l) true acc = f16_9 k (j + 3) (mkL l) ((hd l).length : Int) acc := by
      unfold f16_5
      rw [f33_s, v33_s, cond_true, if_some, idx_hd, mkL_size]
      by_cases h : tl l = []
      · rw [if_pos h]
        have : (hd l).length = l.length := by
          have := congrArg List.length (hd_tl l); rw [h, List.append_nil] at this; omega
        rw [this]; rfl
      · rw [if_neg h, decide_eq_false (show ¬ ((hd l).length : Int) < 0 by omega), cond_false]
    have done : ∀ (i : Nat) (s : List UInt8) (a : List ByteArray), f16_5 k (i + 1) (mkL s) false a = some (0, a) := fun i s a => by unfold f16_5; rfl
    have rest : ∀ (s r : List UInt8) (o : Bool) (m : Nat), m ≤ l.length → l.drop m = r → s.length ≤ 1000000000 → m ≠ 0 → qt s = o →
        f16_13 k (j + 2) (mkL l) (mkL s) (m : Int) o acc = some (if chk (mkL s) = 0 then (match r with
          | [] => (0, acc ++ [mkL s])
          | b :: r' => if b = 32 then spl n r' (acc ++ [mkL s]) else (3, [])) else (3, [])) := fun s r o m hm hr hs h0 hq => by
      rw [f16_13_s k (by omega) (j + 1) l s m o acc hm hs]
      by_cases hc : chk (mkL s) = 0
      · rw [if_pos hc]
        cases r with
        | nil =>
          have hml : m = l.length := by
            have := congrArg List.length hr; rw [List.length_drop] at this; simp at this; omega
          rw [if_neg (show ¬ (m = 0 ∨ qt s ≠ o ∨ chk (mkL s) ≠ 0 ∨ (m < l.length ∧ l.getD m 0 ≠ 32)) from fun h => h.elim h0 fun h => h.elim (fun h => h hq) fun h => h.elim (fun h => h hc) fun h => by omega), f16_15_s k j l s m acc hm (by omega) (by omega), if_neg (by omega)]
          obtain ⟨i, rfl⟩ : ∃ i, j = i + 1 := ⟨j - 1, by omega⟩
          rw [done]
        | cons b r =>
          have hml : m < l.length := by
            have := congrArg List.length hr; rw [List.length_drop, List.length_cons] at this; omega
          have hb : l.getD m 0 = b := by
            rw [List.drop_eq_getElem_cons hml] at hr
            rw [List.getD_eq_getElem?_getD, List.getElem?_eq_getElem hml]
            exact (List.cons.inj hr).1
          have hr2 : l.drop (m + 1) = r := by
            rw [List.drop_eq_getElem_cons hml] at hr
            exact (List.cons.inj hr).2
          simp only
          by_cases h32 : b = 32
          · rw [if_pos h32, if_neg (show ¬ (m = 0 ∨ qt s ≠ o ∨ chk (mkL s) ≠ 0 ∨ (m < l.length ∧ l.getD m 0 ≠ 32)) from fun h => h.elim h0 fun h => h.elim (fun h => h hq) fun h => h.elim (fun h => h hc) fun h => h.2 (by rw [hb]; exact h32)), f16_15_s k j l s m acc hm (by omega) (by omega), if_pos hml, hr2]
            have hrl : r.length < l.length := by rw [← hr2, List.length_drop]; omega
            exact f16_loop k hk n r (acc ++ [mkL s]) j (by omega) (by omega) (by omega) (by rw [List.length_append, List.length_singleton]; omega)
          · rw [if_neg h32, if_pos (.inr (.inr (.inr ⟨hml, by rw [hb]; exact h32⟩)))]
      · rw [if_neg hc, if_pos (.inr (.inr (.inl hc)))]
    have bad : ∀ (s : List UInt8) (o : Bool) (m : Nat), m ≤ l.length → s.length ≤ 1000000000 → (m = 0 ∨ qt s ≠ o) → f16_13 k (j + 2) (mkL l) (mkL s) (m : Int) o acc = some (3, []) := fun s o m hm hs h => by
      rw [f16_13_s k (by omega) (j + 1) l s m o acc hm hs, if_pos (by rcases h with h | h <;> simp [h])]
    rw [step5]
    unfold f16_9
    rw [if_pos ⟨by omega, by omega, by rw [mkL_size]; omega⟩, f26_s, v26_s, if_some, spl]
    unfold one
    by_cases h34 : l.head? = some 34
    · rw [show (l.head? == some 34) = true by simp [h34], cond_true, if_pos h34]
      have hl1 : 1 ≤ l.length := by cases l with
        | nil => simp at h34
        | cons b t => simp
      have e34 := f34_s k (mkL l) (by rw [mkL_size]; omega) hk (by rw [mkL_size]; exact hl1)
      rw [mkL_list, List.drop_one] at e34
      have v34e : v34 k (mkL l) = (match unq [] l.tail with
          | some (a, r) => (mkL a, (((mkL l).size - r.length : Nat) : Int))
          | none => (ByteArray.mk #[], 0)) := by unfold v34; rw [e34]; rfl
      rw [e34, v34e, if_some]
      cases hu : unq [] l.tail with
      | none =>
        simp only
        exact bad [] true 0 (by omega) (by simp) (.inl rfl)
      | some p =>
        obtain ⟨s, r⟩ := p
        simp only
        obtain ⟨u, e1, e2⟩ := unq_inv _ _ _ _ _ (Nat.le_refl _) hu
        rw [List.nil_append] at e1
        subst e1
        have hlen : l.length = (esc s).length + r.length + 2 := by
          have := congrArg List.length e2
          rw [List.length_tail, List.length_append, List.length_cons] at this
          omega
        have hsl : s.length ≤ (esc s).length := by
          have : ∀ s : List UInt8, s.length ≤ (esc s).length := fun s => by
            induction s with
            | nil => simp
            | cons b s ih =>
              have he : esc (b :: s) = (if b = 34 ∨ b = 92 then [92, b] else [b]) ++ esc s := by rw [esc, List.flatMap_cons]; rfl
              rw [he, List.length_append, List.length_cons]
              split <;> simp only [List.length_cons, List.length_nil] <;> omega
          exact this s
        rw [mkL_size]
        by_cases hq : qt s = true
        · rw [if_pos hq]
          simp only
          refine rest s r true (l.length - r.length) (by omega) ?_ (by omega) (by omega) hq
          cases l with
          | nil => simp at h34
          | cons b t =>
            simp only [List.tail_cons] at e2
            rw [e2, List.length_cons, List.length_append, List.length_cons, show (esc s).length + (r.length + 1) + 1 - r.length = ((esc s).length + 1) + 1 by omega, List.drop_succ_cons]
            have : esc s ++ 34 :: r = (esc s ++ [34]) ++ r := by simp
            rw [this]
            exact List.drop_left' (by simp)
        · rw [if_neg hq]
          simp only
          exact bad s true _ (by omega) (by omega) (.inr hq)
    · rw [show (l.head? == some 34) = false by simpa using h34, cond_false, if_neg h34, take_hd]
      by_cases h0 : hd l = []
      · rw [if_pos h0]
        simp only
        exact bad (hd l) false _ hdl (by omega) (.inl (by rw [h0]; rfl))
      · rw [if_neg h0]
        by_cases hq : qt (hd l) = true
        · rw [if_pos hq]
          simp only
          exact bad (hd l) false _ hdl (by omega) (.inr (by rw [hq]; decide))
        · rw [if_neg hq]
          simp only
          refine rest (hd l) (tl l) false (hd l).length hdl ?_ (by omega) (fun e => h0 (List.length_eq_zero_iff.1 e)) (by simpa using hq)
          conv => lhs; arg 2; rw [hd_tl l]
          exact List.drop_left

/-- what Split returns -/
def splT (l : List UInt8) : Int × List ByteArray := if 1024 < l.length then (8, []) else if l = [] then (0, []) else spl (l.length + 1) l []
theorem f16_s (k : Nat) (hk : 1000001 ≤ k) (l : List UInt8) : f16 k (mkL l) = some (splT l) := by
  unfold f16 splT
  rw [mkL_size]
  by_cases h : 1024 < l.length
  · rw [decide_eq_true (by omega : (l.length : Int) > 1024), if_pos h]; rfl
  · rw [decide_eq_false (by omega : ¬ (l.length : Int) > 1024), if_neg h, cond_false, emp, mkL_list]
    cases l with
    | nil =>
      rw [if_pos rfl]
      obtain ⟨k', rfl⟩ : ∃ i, k = i + 1 := ⟨k - 1, by omega⟩
      unfold f16_5; rfl
    | cons b t =>
      rw [if_neg (by simp)]
      exact f16_loop k hk _ (b :: t) [] k (by omega) (by omega) (by omega) (by simp only [List.length_nil]; omega)
end Go.AM
namespace Go.AM
open Go Go.Proofs
set_option linter.unusedVariables false
noncomputable section
/-! ### function 17: papermill/papermillref07.Split -/
def K17 (k : Nat) : Calld := ⟨fun g => match g with
  | 15 => some [false]
  | 35 => some [false]
  | _ => none, fun g xs _ => match g with
  | 15 => match xs with
    | [.r (.ro t0_ q0)] => (castL t0_ RTy.str q0).bind fun fields_ => some (res15 (v15 k fields_), bo15 (v15 k fields_))
    | _ => none
  | 35 => match xs with
    | [.r (.v (.string line_))] => some (res35 (v35 k line_), bo35 (v35 k line_))
    | _ => none
  | _ => none⟩
abbrev R17 : Type := Int × List (RTy.str).T
def res17 (r : R17) : AV := .tup [.own 0 0, .r (.v (.int .i64 r.1))]
def bo17 (r : R17) : List (Nat × Blk) := [(0, .row 9 RTy.str r.2)]
def st17_5 (x0 : ByteArray) (x1 : ByteArray) (x2 : List (RTy.str).T) : St := ⟨mkS 75 [(0, .r (.v (.string x0))), (4, .own 1000000 0), (5, .r (.v (.string x1)))], [(1000000, 0, .row 9 RTy.str x2)]⟩
def st17_9 (x0 : ByteArray) (x1 : ByteArray) (x2 : ByteArray) (x3 : Int) (x4 : List (RTy.str).T) : St := ⟨mkS 75 [(0, .r (.v (.string x0))), (4, .own 1000000 0), (5, .r (.v (.string x1))), (6, .r (.v (.string x2))), (7, .r (.v (.int .i64 x3)))], [(1000000, 0, .row 9 RTy.str x4)]⟩
def st17_13 (x0 : ByteArray) (x1 : ByteArray) (x2 : ByteArray) (x3 : Int) (x4 : List (RTy.str).T) : St := ⟨mkS 75 [(0, .r (.v (.string x0))), (4, .own 1000000 0), (5, .r (.v (.string x1))), (6, .r (.v (.string x2))), (7, .r (.v (.int .i64 x3)))], [(1000000, 0, .row 9 RTy.str x4)]⟩
mutual
def f17_5 (k : Nat) : Nat → ByteArray → ByteArray → List (RTy.str).T → Option R17
  | 0, _, _, _ => none
  | j + 1, x0, x1, x2 =>
    bif (!x1.toList == (ByteArray.mk #[]).toList) then
      if ((0 : Int) ≤ (0 : Int)) ∧ ((0 : Int) < (↑x1.size : Int)) then
        bif (bAt x1 (0 : Int) == (34 : Int)) then
          if ((f35 k x1).isSome = true) then
            f17_9 k j x0 x1 ((v35 k x1).fst) ((v35 k x1).snd) x2
          else none
        else
          f17_9 k j x0 x1 ((ByteArray.mk #[])) 0 x2
      else none
    else
      if ((f15 k x2).isSome = true) then
        bif ((v15 k x2).snd != (0 : Int) || (! (v15 k x2).fst.toList == x0.toList)) then
          some ((3, []))
        else
          some ((0, x2))
      else none
def f17_9 (k : Nat) : Nat → ByteArray → ByteArray → ByteArray → Int → List (RTy.str).T → Option R17
  | 0, _, _, _, _, _ => none
  | j + 1, x0, x1, x2, x3, x4 =>
    if ((x2.toList == (ByteArray.mk #[]).toList && decide (x3 < (↑x1.size : Int))) = true → (0 : Int) ≤ (0 : Int)) ∧ ((x2.toList == (ByteArray.mk #[]).toList && decide (x3 < (↑x1.size : Int))) = true → (0 : Int) < (↑x1.size : Int)) ∧ ((x2.toList == (ByteArray.mk #[]).toList && decide (x3 < (↑x1.size : Int)) && bAt x1 (0 : Int) != (34 : Int)) = true → (0 : Int) ≤ x3) ∧ ((x2.toList == (ByteArray.mk #[]).toList && decide (x3 < (↑x1.size : Int)) && bAt x1 (0 : Int) != (34 : Int)) = true → x3 < (↑x1.size : Int)) then
      bif (x2.toList == (ByteArray.mk #[]).toList && decide (x3 < (↑x1.size : Int)) && bAt x1 (0 : Int) != (34 : Int) && bAt x1 x3 != (32 : Int)) then
        f17_9 k j x0 x1 x2 ((IntKind.i64.wrap (x3 + 1))) x4
      else
        if ((0 : Int) ≤ (0 : Int)) ∧ ((0 : Int) < (↑x1.size : Int)) then
          bif (bAt x1 (0 : Int) != (34 : Int)) then
            if ((0 : Int) ≤ (0 : Int)) ∧ ((0 : Int) ≤ x3) ∧ (x3 ≤ (↑x1.size : Int)) then
              f17_13 k j x0 x1 ((x1.extract (Int.toNat 0) x3.toNat)) x3 x4
            else none
          else
            f17_13 k j x0 x1 x2 x3 x4
        else none
    else none
def f17_13 (k : Nat) : Nat → ByteArray → ByteArray → ByteArray → Int → List (RTy.str).T → Option R17
  | 0, _, _, _, _, _ => none
  | j + 1, x0, x1, x2, x3, x4 =>
    if ((x4.length + [x2].length) * (16 : Nat) ≤ (140737488355328 : Nat)) then
      if ((0 : Int) ≤ if (↑x1.size : Int) < IntKind.i64.wrap (x3 + (1 : Int)) then (↑x1.size : Int) else IntKind.i64.wrap (x3 + (1 : Int))) ∧ ((if (↑x1.size : Int) < IntKind.i64.wrap (x3 + (1 : Int)) then (↑x1.size : Int) else IntKind.i64.wrap (x3 + (1 : Int))) ≤ (↑x1.size : Int)) ∧ ((↑x1.size : Int) ≤ (↑x1.size : Int)) then
        f17_5 k j x0 ((x1.extract (if (↑x1.size : Int) < IntKind.i64.wrap (x3 + 1) then (↑x1.size : Int) else IntKind.i64.wrap (x3 + 1)).toNat (↑x1.size : Int).toNat)) ((x4 ++ [x2]))
      else none
    else none
end
def f17 (k : Nat) (line_ : ByteArray) : Option R17 :=
  bif (decide ((↑line_.size : Int) > (1024 : Int))) then
    some ((8, []))
  else
    f17_5 k k line_ line_ ([])
def args17 (line_ : ByteArray) : List AV := [.r (.v (.string line_))]
def v17 (k : Nat) (line_ : ByteArray) : R17 := (f17 k line_).getD (0, [])
theorem ev17 (k : Nat) : ∀ j, (∀ (x0 : ByteArray) (x1 : ByteArray) (x2 : List (RTy.str).T) (r : R17), f17_5 k j x0 x1 x2 = some r → Ev Tryd.prog Tryd.f17 0 (placeAt Tryd.f17 5) (st17_5 x0 x1 x2) (res17 r) (bo17 r)) ∧ (∀ (x0 : ByteArray) (x1 : ByteArray) (x2 : ByteArray) (x3 : Int) (x4 : List (RTy.str).T) (r : R17), f17_9 k j x0 x1 x2 x3 x4 = some r → Ev Tryd.prog Tryd.f17 0 (placeAt Tryd.f17 9) (st17_9 x0 x1 x2 x3 x4) (res17 r) (bo17 r)) ∧ (∀ (x0 : ByteArray) (x1 : ByteArray) (x2 : ByteArray) (x3 : Int) (x4 : List (RTy.str).T) (r : R17), f17_13 k j x0 x1 x2 x3 x4 = some r → Ev Tryd.prog Tryd.f17 0 (placeAt Tryd.f17 13) (st17_13 x0 x1 x2 x3 x4) (res17 r) (bo17 r))
  | 0 => by
    refine ⟨?_, ?_, ?_⟩ <;> intros <;> rename_i h <;> simp [f17_5, f17_9, f17_13] at h
  | j + 1 => by
    have ih := ev17 k j
    refine ⟨?_, ?_, ?_⟩
    · intro x0 x1 x2 r h
      rw [f17_5] at h
      refine Ev.tree hm (R := Rt) (K := (K17 k)) (l := [13]) (C := [(5, [.row 4 9 RTy.str, .auto [0, 4, 5] false]), (9, [.auto [0, 4, 5, 6, 7] false]), (13, [.auto [0, 4, 5, 6, 7] false])]) (E := [.row 2 9 RTy.str, .auto [2, 3] true]) (n := 1000) (T := .test ((!x1.toList == (ByteArray.mk #[]).toList)) (.need [(0 : Int) ≤ (0 : Int), (0 : Int) < (↑x1.size : Int)] (.test ((bAt x1 (0 : Int) == (34 : Int))) (.need [CC Tryd.prog 35 (args35 x1) [] (res35 (v35 k x1)) (bo35 (v35 k x1))] (.cut 9 (placeAt Tryd.f17 9) (st17_9 x0 x1 ((v35 k x1).fst) ((v35 k x1).snd) x2))) (.cut 9 (placeAt Tryd.f17 9) (st17_9 x0 x1 ((ByteArray.mk #[])) 0 x2)))) (.need [CC Tryd.prog 15 (args15 x2) [] (res15 (v15 k x2)) (bo15 (v15 k x2))] (.test (((v15 k x2).snd != (0 : Int) || (! (v15 k x2).fst.toList == x0.toList))) (.leaf (res17 ((3, []))) (bo17 ((3, [])))) (.leaf (res17 ((0, x2))) (bo17 ((0, x2))))))) (by kernel_rfl) ?_
      refine ⟨fun c => ?_, fun c => ?_⟩
      · rw [cond_t c] at h
        by_cases q : ((0 : Int) ≤ (0 : Int)) ∧ ((0 : Int) < (↑x1.size : Int))
        · rw [if_pos q] at h
          refine ⟨(conjC q.1 (conjC q.2 conj0)), ?_⟩
          refine ⟨fun c => ?_, fun c => ?_⟩
          · rw [cond_t c] at h
            by_cases q : ((f35 k x1).isSome = true)
            · rw [if_pos q] at h
              refine ⟨(conjC (cc35 k x1 q) conj0), ?_⟩
              exact ih.2.1 x0 x1 ((v35 k x1).fst) ((v35 k x1).snd) x2 _ h
            · rw [if_neg q] at h; cases h
          · rw [cond_f c] at h
            exact ih.2.1 x0 x1 ((ByteArray.mk #[])) 0 x2 _ h
        · rw [if_neg q] at h; cases h
      · rw [cond_f c] at h
        by_cases q : ((f15 k x2).isSome = true)
        · rw [if_pos q] at h
          refine ⟨(conjC (cc15 k x2 q) conj0), ?_⟩
          refine ⟨fun c => ?_, fun c => ?_⟩
          · rw [cond_t c] at h
            cases h; exact ⟨rfl, rfl⟩
          · rw [cond_f c] at h
            cases h; exact ⟨rfl, rfl⟩
        · rw [if_neg q] at h; cases h
    · intro x0 x1 x2 x3 x4 r h
      rw [f17_9] at h
      refine Ev.tree hm (R := Rt) (K := (K17 k)) (l := [13]) (C := [(5, [.row 4 9 RTy.str, .auto [0, 4, 5] false]), (9, [.auto [0, 4, 5, 6, 7] false]), (13, [.auto [0, 4, 5, 6, 7] false])]) (E := [.row 2 9 RTy.str, .auto [2, 3] true]) (n := 1000) (T := .need [(x2.toList == (ByteArray.mk #[]).toList && decide (x3 < (↑x1.size : Int))) = true → (0 : Int) ≤ (0 : Int), (x2.toList == (ByteArray.mk #[]).toList && decide (x3 < (↑x1.size : Int))) = true → (0 : Int) < (↑x1.size : Int), (x2.toList == (ByteArray.mk #[]).toList && decide (x3 < (↑x1.size : Int)) && bAt x1 (0 : Int) != (34 : Int)) = true → (0 : Int) ≤ x3, (x2.toList == (ByteArray.mk #[]).toList && decide (x3 < (↑x1.size : Int)) && bAt x1 (0 : Int) != (34 : Int)) = true → x3 < (↑x1.size : Int)] (.test ((x2.toList == (ByteArray.mk #[]).toList && decide (x3 < (↑x1.size : Int)) && bAt x1 (0 : Int) != (34 : Int) && bAt x1 x3 != (32 : Int))) (.cut 9 (placeAt Tryd.f17 9) (st17_9 x0 x1 x2 ((IntKind.i64.wrap (x3 + 1))) x4)) (.need [(0 : Int) ≤ (0 : Int), (0 : Int) < (↑x1.size : Int)] (.test ((bAt x1 (0 : Int) != (34 : Int))) (.need [(0 : Int) ≤ (0 : Int), (0 : Int) ≤ x3, x3 ≤ (↑x1.size : Int)] (.cut 13 (placeAt Tryd.f17 13) (st17_13 x0 x1 ((x1.extract (Int.toNat 0) x3.toNat)) x3 x4))) (.cut 13 (placeAt Tryd.f17 13) (st17_13 x0 x1 x2 x3 x4)))))) (by kernel_rfl) ?_
      by_cases q : ((x2.toList == (ByteArray.mk #[]).toList && decide (x3 < (↑x1.size : Int))) = true → (0 : Int) ≤ (0 : Int)) ∧ ((x2.toList == (ByteArray.mk #[]).toList && decide (x3 < (↑x1.size : Int))) = true → (0 : Int) < (↑x1.size : Int)) ∧ ((x2.toList == (ByteArray.mk #[]).toList && decide (x3 < (↑x1.size : Int)) && bAt x1 (0 : Int) != (34 : Int)) = true → (0 : Int) ≤ x3) ∧ ((x2.toList == (ByteArray.mk #[]).toList && decide (x3 < (↑x1.size : Int)) && bAt x1 (0 : Int) != (34 : Int)) = true → x3 < (↑x1.size : Int))
      · rw [if_pos q] at h
        refine ⟨(conjC q.1 (conjC q.2.1 (conjC q.2.2.1 (conjC q.2.2.2 conj0)))), ?_⟩
        refine ⟨fun c => ?_, fun c => ?_⟩
        · rw [cond_t c] at h
          exact ih.2.1 x0 x1 x2 ((IntKind.i64.wrap (x3 + 1))) x4 _ h
        · rw [cond_f c] at h
          by_cases q : ((0 : Int) ≤ (0 : Int)) ∧ ((0 : Int) < (↑x1.size : Int))
          · rw [if_pos q] at h
            refine ⟨(conjC q.1 (conjC q.2 conj0)), ?_⟩
            refine ⟨fun c => ?_, fun c => ?_⟩
            · rw [cond_t c] at h
              by_cases q : ((0 : Int) ≤ (0 : Int)) ∧ ((0 : Int) ≤ x3) ∧ (x3 ≤ (↑x1.size : Int))
              · rw [if_pos q] at h
                refine ⟨(conjC q.1 (conjC q.2.1 (conjC q.2.2 conj0))), ?_⟩
                exact ih.2.2 x0 x1 ((x1.extract (Int.toNat 0) x3.toNat)) x3 x4 _ h
              · rw [if_neg q] at h; cases h
            · rw [cond_f c] at h
              exact ih.2.2 x0 x1 x2 x3 x4 _ h
          · rw [if_neg q] at h; cases h
      · rw [if_neg q] at h; cases h
    · intro x0 x1 x2 x3 x4 r h
      rw [f17_13] at h
      refine Ev.tree hm (R := Rt) (K := (K17 k)) (l := [13]) (C := [(5, [.row 4 9 RTy.str, .auto [0, 4, 5] false]), (9, [.auto [0, 4, 5, 6, 7] false]), (13, [.auto [0, 4, 5, 6, 7] false])]) (E := [.row 2 9 RTy.str, .auto [2, 3] true]) (n := 1000) (T := .need [(x4.length + [x2].length) * (16 : Nat) ≤ (140737488355328 : Nat)] (.need [(0 : Int) ≤ if (↑x1.size : Int) < IntKind.i64.wrap (x3 + (1 : Int)) then (↑x1.size : Int) else IntKind.i64.wrap (x3 + (1 : Int)), (if (↑x1.size : Int) < IntKind.i64.wrap (x3 + (1 : Int)) then (↑x1.size : Int) else IntKind.i64.wrap (x3 + (1 : Int))) ≤ (↑x1.size : Int), (↑x1.size : Int) ≤ (↑x1.size : Int)] (.cut 5 (placeAt Tryd.f17 5) (st17_5 x0 ((x1.extract (if (↑x1.size : Int) < IntKind.i64.wrap (x3 + 1) then (↑x1.size : Int) else IntKind.i64.wrap (x3 + 1)).toNat (↑x1.size : Int).toNat)) ((x4 ++ [x2])))))) (by kernel_rfl) ?_
      by_cases q : ((x4.length + [x2].length) * (16 : Nat) ≤ (140737488355328 : Nat))
      · rw [if_pos q] at h
        refine ⟨(conjC q conj0), ?_⟩
        by_cases q : ((0 : Int) ≤ if (↑x1.size : Int) < IntKind.i64.wrap (x3 + (1 : Int)) then (↑x1.size : Int) else IntKind.i64.wrap (x3 + (1 : Int))) ∧ ((if (↑x1.size : Int) < IntKind.i64.wrap (x3 + (1 : Int)) then (↑x1.size : Int) else IntKind.i64.wrap (x3 + (1 : Int))) ≤ (↑x1.size : Int)) ∧ ((↑x1.size : Int) ≤ (↑x1.size : Int))
        · rw [if_pos q] at h
          refine ⟨(conjC q.1 (conjC q.2.1 (conjC q.2.2 conj0))), ?_⟩
          exact ih.1 x0 ((x1.extract (if (↑x1.size : Int) < IntKind.i64.wrap (x3 + 1) then (↑x1.size : Int) else IntKind.i64.wrap (x3 + 1)).toNat (↑x1.size : Int).toNat)) ((x4 ++ [x2])) _ h
        · rw [if_neg q] at h; cases h
      · rw [if_neg q] at h; cases h
theorem of17 (k : Nat) (line_ : ByteArray) (r : R17) (h : f17 k line_ = some r) : CC Tryd.prog 17 (args17 line_) [] (res17 r) (bo17 r) := by
  refine CC.of (fn := Tryd.f17) (by kernel_rfl) (by kernel_rfl) (by kernel_rfl) (by kernel_rfl) ?_
  unfold f17 at h
  refine Ev.tree hm (R := Rt) (K := (K17 k)) (l := [13]) (C := [(5, [.row 4 9 RTy.str, .auto [0, 4, 5] false]), (9, [.auto [0, 4, 5, 6, 7] false]), (13, [.auto [0, 4, 5, 6, 7] false])]) (E := [.row 2 9 RTy.str, .auto [2, 3] true]) (n := 1000) (T := .test ((decide ((↑line_.size : Int) > (1024 : Int)))) (.leaf (res17 ((8, []))) (bo17 ((8, [])))) (.cut 5 (placeAt Tryd.f17 5) (st17_5 line_ line_ ([])))) (by kernel_rfl) ?_
  refine ⟨fun c => ?_, fun c => ?_⟩
  · rw [cond_t c] at h
    cases h; exact ⟨rfl, rfl⟩
  · rw [cond_f c] at h
    exact (ev17 k k).1 line_ line_ ([]) _ h
theorem cc17 (k : Nat) (line_ : ByteArray) (h : (f17 k line_).isSome = true) : CC Tryd.prog 17 (args17 line_) [] (res17 (v17 k line_)) (bo17 (v17 k line_)) := by
  cases e : f17 k line_ with
  | none => rw [e] at h; cases h
  | some r => rw [show v17 k line_ = r by simp [v17, e]]; exact of17 k line_ r e

end
end Go.AM
namespace Go.AM
open Go Go.Proofs Go.Lib

theorem f15_s (k : Nat) (l : List ByteArray) (hl : l.length ≤ 2000) (hk : 1000001 ≤ k) : f15 k l = some (fin l (chkAll l)) := by
  unfold f15
  have := f15_a k (by omega) l hl l.length 0 k (by omega) (by omega) (by omega) (fun h => chkAll_in h)
  rw [show ((0 : Nat) : Int) = 0 from rfl, List.drop_zero] at this
  exact this
theorem f14_s (k : Nat) (l : List ByteArray) (hl : l.length ≤ 2000) (hk : 1000001 ≤ k) : f14 k l = some (fin l (chkAll l)) := by
  unfold f14
  have := f14_a k (by omega) l hl l.length 0 k (by omega) (by omega) (by omega) (fun h => chkAll_in h)
  rw [show ((0 : Nat) : Int) = 0 from rfl, List.drop_zero] at this
  exact this

def finR (line : List UInt8) (out : List ByteArray) : Int × List ByteArray :=
  if (fin out (chkAll out)).2 = 0 ∧ (fin out (chkAll out)).1.data.toList = line then (0, out) else (3, [])

theorem ext_from (l : List UInt8) (a : Nat) : (mkL l).extract a l.length = mkL (l.drop a) := by
  rw [← of_list ((mkL l).extract _ _), ByteArray.data_extract, Array.toList_extract, List.extract_eq_take_drop, mkL_list]
  congr 1
  exact List.take_of_length_le (by rw [List.length_drop]; omega)

theorem f17_13_s (k j : Nat) (line : ByteArray) (l s : List UInt8) (n : Nat) (acc : List ByteArray) (hn : n ≤ l.length) (hl : l.length ≤ 1000000) (ha : acc.length ≤ 1000000) :
    f17_13 k (j + 1) line (mkL l) (mkL s) (n : Int) acc = f17_5 k j line (mkL (l.drop (n + 1))) (acc ++ [mkL s]) := by
  unfold f17_13
  rw [if_pos (by rw [List.length_singleton]; omega), mkL_size, wrapS n (by omega)]
  by_cases h : (l.length : Int) < ((n + 1 : Nat) : Int)
  · rw [if_pos h, if_pos ⟨by omega, by omega, by omega⟩, show ((l.length : Nat) : Int).toNat = l.length from rfl, ext_from]
    rw [List.drop_of_length_le (Nat.le_refl _), List.drop_of_length_le (by omega)]
  · rw [if_neg h, if_pos ⟨by omega, by omega, by omega⟩, show ((l.length : Nat) : Int).toNat = l.length from rfl, show ((n + 1 : Nat) : Int).toNat = n + 1 from rfl, ext_from]

theorem bAt_mk (l : List UInt8) (i : Nat) : bAt (mkL l) (i : Int) = ((l.getD i 0).toNat : Int) := by unfold bAt; rw [mkL_list]; rfl
theorem bne34 (b : UInt8) : ((b.toNat : Int) != 34) = !(b == 34) := by rw [bne, q34]
theorem q32 (b : UInt8) : (((b.toNat : Nat) : Int) == (32 : Int)) = (b == 32) := u_eq b 32 (by omega)
theorem bne32 (b : UInt8) : ((b.toNat : Int) != 32) = !(b == 32) := by rw [bne, q32]
theorem nilB : ByteArray.mk #[] = mkL [] := rfl
theorem head_getD (l : List UInt8) (h : l ≠ []) : (l.getD 0 0 == 34) = (l.head? == some 34) := by
  cases l with
  | nil => exact absurd rfl h
  | cons b t => simp

/-- the reference's inner loop -/
theorem f17_9_q (k j : Nat) (line : ByteArray) (l s : List UInt8) (n : Nat) (acc : List ByteArray) (h0 : l ≠ []) (h34 : l.head? = some 34) :
    f17_9 k (j + 1) line (mkL l) (mkL s) (n : Int) acc = f17_13 k j line (mkL l) (mkL s) (n : Int) acc := by
  have hb : bAt (mkL l) 0 = ((l.getD 0 0).toNat : Int) := bAt_mk l 0
  have h1 : 1 ≤ l.length := by cases l with
    | nil => exact absurd rfl h0
    | cons => simp
  unfold f17_9
  rw [hb, bne34, head_getD l h0, show (l.head? == some 34) = true by simp [h34], mkL_size, Bool.not_true, Bool.and_false, Bool.false_and, cond_false, if_pos ⟨fun _ => by omega, fun _ => by omega, fun h => (by cases h), fun h => (by cases h)⟩, if_pos ⟨by omega, by omega⟩, cond_false]
theorem f17_9_p (k : Nat) (line : ByteArray) (l : List UInt8) (acc : List ByteArray) (h0 : l ≠ []) (h34 : ¬ l.head? = some 34) (hl : l.length ≤ 100000) : ∀ (m n j : Nat), (hd l).length - n = m → n ≤ (hd l).length → m < j →
    f17_9 k j line (mkL l) (mkL []) (n : Int) acc = f17_13 k (j - m - 1) line (mkL l) (mkL (hd l)) ((hd l).length : Int) acc
  | m, n, 0, hm, hn, hj => by omega
  | m, n, j + 1, hm, hn, hj => by
    have hb : bAt (mkL l) 0 = ((l.getD 0 0).toNat : Int) := bAt_mk l 0
    have h1 : 1 ≤ l.length := by cases l with
      | nil => exact absurd rfl h0
      | cons => simp
    have hdl : (hd l).length ≤ l.length := by
      have := congrArg List.length (hd_tl l); rw [List.length_append] at this; omega
    have e0 : ((mkL []).toList == (ByteArray.mk #[]).toList) = true := by rw [emp]; rfl
    unfold f17_9
    rw [hb, bne34, head_getD l h0, show (l.head? == some 34) = false by simpa using h34, mkL_size, e0, Bool.not_false, Bool.and_true, Bool.true_and, bAt_mk, bne32, wrapS n (by omega), if_pos ⟨fun _ => by omega, fun _ => by omega, fun _ => by omega, fun h => by simpa using h⟩]
    by_cases hlt : n < (hd l).length
    · have hg : (!(l.getD n 0 == 32)) = true := by
        have e : l.getD n 0 = (hd l).getD n 0 := by
          conv => lhs; arg 1; rw [hd_tl l]
          rw [List.getD_eq_getElem?_getD, List.getD_eq_getElem?_getD, List.getElem?_append_left hlt]
        rw [e, List.getD_eq_getElem?_getD, List.getElem?_eq_getElem hlt]
        have := List.all_takeWhile (p := fun b : UInt8 => !(b == 32)) (l := l)
        rw [List.all_eq_true] at this
        exact this _ (List.getElem_mem hlt)
      rw [decide_eq_true (by omega : (n : Int) < (l.length : Int)), hg, show (true && true) = true from rfl, cond_true, f17_9_p k line l acc h0 h34 hl (m - 1) (n + 1) j (by omega) (by omega) (by omega)]
      congr 1
      omega
    · have hg : (decide ((n : Int) < (l.length : Int)) && !(l.getD n 0 == 32)) = false := by
        by_cases hlt2 : n < l.length
        · have hn' : n = (hd l).length := by omega
          have e : l.getD n 0 = 32 := by
            rcases tl_32 l with h | ⟨r, h⟩
            · have := congrArg List.length (hd_tl l); rw [h, List.append_nil] at this; omega
            · conv => lhs; arg 1; rw [hd_tl l]
              rw [List.getD_eq_getElem?_getD, List.getElem?_append_right (by omega), h, hn', Nat.sub_self]; rfl
          rw [e]; simp
        · rw [decide_eq_false (by omega)]; rfl
      have hn' : n = (hd l).length := by omega
      rw [hg, cond_false, if_pos ⟨by omega, by omega⟩, cond_true, if_pos ⟨by omega, by omega, by omega⟩, hn', take_hd]
      congr 1
      omega

theorem qtd_len : ∀ (n : Nat) (t acc : List UInt8), t.length ≤ n → (qtd acc t).2.length ≤ t.length
  | n, [], acc, _ => by simp [qtd]
  | 0, b :: t, acc, h => by simp at h
  | n + 1, b :: t, acc, h => by
    rw [qtd_cons]
    simp only [List.length_cons] at h
    split
    · simp
    · split
      · cases t with
        | nil => simp
        | cons c t =>
          have := qtd_len n t (acc ++ [c]) (by simp only [List.length_cons] at h; omega)
          simp only [List.length_cons] at this ⊢; omega
      · have := qtd_len n t (acc ++ [b]) (by omega)
        simp only [List.length_cons] at this ⊢; omega
theorem qtd_drop : ∀ (n : Nat) (t acc : List UInt8), t.length ≤ n → (qtd acc t).2 = t.drop (t.length - (qtd acc t).2.length)
  | n, [], acc, _ => by simp [qtd]
  | 0, b :: t, acc, h => by simp at h
  | n + 1, b :: t, acc, h => by
    rw [qtd_cons]
    simp only [List.length_cons] at h
    split
    · simp
    · split
      · cases t with
        | nil => simp
        | cons c t =>
          simp only [List.length_cons] at h ⊢
          have h1 := qtd_len n t (acc ++ [c]) (by omega)
          have h2 := qtd_drop n t (acc ++ [c]) (by omega)
          rw [show t.length + 1 + 1 - (qtd (acc ++ [c]) t).2.length = (t.length - (qtd (acc ++ [c]) t).2.length) + 1 + 1 by omega, List.drop_succ_cons, List.drop_succ_cons]
          exact h2
      · have h1 := qtd_len n t (acc ++ [b]) (by omega)
        have h2 := qtd_drop n t (acc ++ [b]) (by omega)
        simp only [List.length_cons] at h ⊢
        rw [show t.length + 1 - (qtd (acc ++ [b]) t).2.length = (t.length - (qtd (acc ++ [b]) t).2.length) + 1 by omega, List.drop_succ_cons]
        exact h2

theorem f17_loop (k : Nat) (hk : 1000001 ≤ k) (line : List UInt8) : ∀ (n : Nat) (l : List UInt8) (acc : List ByteArray) (j : Nat), l.length < n → 2000 * n ≤ j → l.length ≤ 1024 → acc.length + l.length ≤ 1500 →
    f17_5 k j (mkL line) (mkL l) acc = some (finR line (rp n l acc))
  | 0, l, acc, j, h, _, _, _ => by omega
  | n + 1, l, acc, j, hn, hj, hl, ha => by
    obtain ⟨j, rfl⟩ : ∃ i, j = i + 1900 := ⟨j - 1900, by omega⟩
    rw [rp]
    unfold f17_5
    rw [emp, mkL_list]
    by_cases h0 : l = []
    · subst h0
      rw [show (!([] : List UInt8).isEmpty) = false from rfl, cond_false, if_pos rfl, f15_s k acc (by omega) hk, if_some]
      have v15e : v15 k acc = fin acc (chkAll acc) := by unfold v15; rw [f15_s k acc (by omega) hk]; rfl
      rw [v15e, tl_data, tl_data, mkL_list]
      unfold finR
      by_cases h1 : (fin acc (chkAll acc)).2 = 0
      · by_cases h2 : (fin acc (chkAll acc)).1.data.toList = line
        · rw [if_pos ⟨h1, h2⟩, h1, h2]; simp
        · rw [if_neg (fun h => h2 h.2), h1, show ((fin acc (chkAll acc)).1.data.toList == line) = false by simpa using h2]; rfl
      · rw [if_neg (fun h => h1 h.1), show ((fin acc (chkAll acc)).2 != 0) = true by simpa using h1]; rfl
    · have h1 : 1 ≤ l.length := by cases l with
        | nil => exact absurd rfl h0
        | cons => simp
      have hb : bAt (mkL l) 0 = ((l.getD 0 0).toNat : Int) := bAt_mk l 0
      rw [show (!l.isEmpty) = true by simpa using h0, cond_true, if_neg h0, mkL_size, if_pos ⟨by omega, by omega⟩, hb, q34, head_getD l h0]
      by_cases h34 : l.head? = some 34
      · rw [show (l.head? == some 34) = true by simp [h34], cond_true]
        have e35 := f35_s k (mkL l) (by rw [mkL_size]; omega) hk (by rw [mkL_size]; exact h1)
        rw [mkL_list, List.drop_one, mkL_size] at e35
        have v35e : v35 k (mkL l) = (mkL (qtd [] l.tail).1, ((l.length - (qtd [] l.tail).2.length : Nat) : Int)) := by unfold v35; rw [e35]; rfl
        have q1 := qtd_len _ l.tail [] (Nat.le_refl _)
        have q2 := qtd_drop _ l.tail [] (Nat.le_refl _)
        rw [List.length_tail] at q1 q2
        rw [e35, v35e, if_some]
        simp only
        rw [f17_9_q k _ _ l _ _ acc h0 h34, f17_13_s k _ _ l _ _ acc (by omega) (by omega) (by omega)]
        have hr : rone l = qtd [] l.tail := by unfold rone; rw [if_pos h34]
        have hd2 : l.drop (l.length - (qtd [] l.tail).2.length + 1) = (qtd [] l.tail).2.drop 1 := by
          conv => rhs; rw [q2]
          rw [List.drop_drop]
          cases l with
          | nil => exact absurd rfl h0
          | cons b t =>
            simp only [List.tail_cons, List.length_cons, Nat.add_sub_cancel] at q1 ⊢
            rw [show t.length + 1 - (qtd [] t).2.length + 1 = (t.length - (qtd [] t).2.length + 1) + 1 by omega, List.drop_succ_cons]
        rw [hd2, hr, f17_loop k hk line n _ _ _ (by rw [List.length_drop]; omega) (by omega) (by rw [List.length_drop]; omega) (by rw [List.length_append, List.length_singleton, List.length_drop]; omega)]
      · rw [show (l.head? == some 34) = false by simpa using h34, cond_false]
        have hdl : (hd l).length ≤ l.length := by
          have := congrArg List.length (hd_tl l); rw [List.length_append] at this; omega
        have e9 := f17_9_p k (mkL line) l acc h0 h34 (by omega) (hd l).length 0 (j + 1899) (by omega) (by omega) (by omega)
        rw [show ((0 : Nat) : Int) = 0 from rfl] at e9
        rw [nilB, e9, show j + 1899 - (hd l).length - 1 = (j + 1897 - (hd l).length) + 1 by omega, f17_13_s k _ _ l _ _ acc hdl (by omega) (by omega)]
        have hr : rone l = (hd l, tl l) := by unfold rone; rw [if_neg h34]
        have hd2 : l.drop ((hd l).length + 1) = (tl l).drop 1 := by
          conv => lhs; arg 2; rw [hd_tl l]
          rw [← List.drop_drop, List.drop_left]
        rw [hd2, hr]
        have htl : (tl l).length ≤ l.length := by
          have := congrArg List.length (hd_tl l); rw [List.length_append] at this; omega
        rw [f17_loop k hk line n _ _ _ (by rw [List.length_drop]; omega) (by omega) (by rw [List.length_drop]; omega) (by rw [List.length_append, List.length_singleton, List.length_drop]; omega)]

theorem jn_J0 (l : List ByteArray) : jn false (ByteArray.mk #[]) l = if (J l).length ≤ 1024 then (mkL (J l), 0) else (ByteArray.mk #[], 8) := by
  rw [jn_J l false _ (by decide)]
  cases l with
  | nil => rfl
  | cons s r =>
    have e : (ByteArray.mk #[]).data.toList ++ (if false = true then [(32 : UInt8)] else []) ++ J (s :: r) = J (s :: r) := rfl
    simp only [e]
theorem fin_0 {out : List ByteArray} (h : (fin out (chkAll out)).2 = 0) : chkAll out = 0 ∧ (fin out (chkAll out)).1 = mkL (J out) ∧ (J out).length ≤ 1024 := by
  unfold fin at h ⊢
  by_cases hc : chkAll out = 0
  · rw [if_pos hc] at h ⊢
    refine ⟨hc, ?_⟩
    rw [jn_J0] at h ⊢
    by_cases hle : (J out).length ≤ 1024
    · rw [if_pos hle]; exact ⟨rfl, hle⟩
    · rw [if_neg hle] at h; exact absurd (show (8 : Int) = 0 from h) (by decide)
  · rw [if_neg hc] at h; exact absurd h hc
theorem fin_J {out : List ByteArray} (hc : ∀ s ∈ out, chk s = 0) (hl : (J out).length ≤ 1024) : fin out (chkAll out) = (mkL (J out), 0) := by
  have h0 : chkAll out = 0 := by
    have : ∀ l : List ByteArray, (∀ s ∈ l, chk s = 0) → chkAll l = 0 := fun l => by
      induction l with
      | nil => intro _; rfl
      | cons a l ih => intro h; rw [chkAll, if_pos (h a List.mem_cons_self), ih fun s hs => h s (List.mem_cons_of_mem _ hs)]
    exact this out hc
  unfold fin
  rw [if_pos h0, jn_J0, if_pos hl]

/-- the two splits are one -/
theorem split_eq (l : List UInt8) (hl : l.length ≤ 1024) (hne : l ≠ []) : finR l (rp (l.length + 1) l []) = spl (l.length + 1) l [] := by
  rcases spl_code (l.length + 1) l [] with h | h
  · obtain ⟨e, out⟩ : ∃ out, spl (l.length + 1) l [] = (0, out) := ⟨(spl (l.length + 1) l []).2, by rw [← h]⟩
    obtain ⟨m, h1, h2, h3, h4, h5⟩ := spl_inv _ _ _ _ out
    rw [List.nil_append] at h2
    have hm : m.length < l.length + 1 := by
      have : ∀ m : List ByteArray, m.length ≤ (J m).length := fun m => by
        induction m with
        | nil => simp
        | cons s r ih =>
          rw [J_cons, List.length_append]
          have hf : 1 ≤ (frm s).data.toList.length := by
            have := J_ne (l := [s]) (by simp)
            rw [show J [s] = (frm s).data.toList from rfl] at this
            cases hh : (frm s).data.toList with
            | nil => exact absurd hh this
            | cons => simp
          cases r with
          | nil => simpa using hf
          | cons a r => simp only [List.length_cons] at ih ⊢; omega
      have := this m
      rw [← h3] at this; omega
    rw [out, h2]
    conv => lhs; rw [h3]
    rw [← h3]
    have hr : rp (l.length + 1) l [] = m := by
      conv => lhs; arg 2; rw [h3]
      rw [rp_J _ m [] hm, List.nil_append]
    rw [hr]
    unfold finR
    rw [fin_J h4 (by rw [← h3]; exact hl), if_pos ⟨rfl, by rw [mkL_list]; exact h3.symm⟩]
  · rw [h]
    unfold finR
    split
    · rename_i hf
      obtain ⟨h1, h2, h3⟩ := fin_0 hf.1
      have hJ : J (rp (l.length + 1) l []) = l := by rw [h2, mkL_list] at hf; exact hf.2
      generalize rp (l.length + 1) l [] = out at h1 hJ
      have ho : out ≠ [] := fun e => by rw [e] at hJ; exact hne hJ.symm
      have hm : out.length ≤ l.length + 1 := by
        have : ∀ m : List ByteArray, m.length ≤ (J m).length := fun m => by
          induction m with
          | nil => simp
          | cons s r ih =>
            rw [J_cons, List.length_append]
            have hf : 1 ≤ (frm s).data.toList.length := by
              have := J_ne (l := [s]) (by simp)
              rw [show J [s] = (frm s).data.toList from rfl] at this
              cases hh : (frm s).data.toList with
              | nil => exact absurd hh this
              | cons => simp
            cases r with
            | nil => simpa using hf
            | cons a r => simp only [List.length_cons] at ih ⊢; omega
        have := this out
        rw [hJ] at this; omega
      have := spl_J (l.length + 1) out [] hm ho (chkAll_in h1)
      rw [hJ, h] at this
      exact absurd (show (3 : Int) = 0 from congrArg Prod.fst this) (by decide)
    · rfl
theorem f17_s (k : Nat) (hk : 4000000 ≤ k) (l : List UInt8) : f17 k (mkL l) = some (splT l) := by
  unfold f17 splT
  rw [mkL_size]
  by_cases h : 1024 < l.length
  · rw [decide_eq_true (by omega : (l.length : Int) > 1024), if_pos h]; rfl
  · rw [decide_eq_false (by omega : ¬ (l.length : Int) > 1024), if_neg h, cond_false, f17_loop k (by omega) l (l.length + 1) l [] k (by omega) (by omega) (by omega) (by simp only [List.length_nil]; omega)]
    by_cases h0 : l = []
    · subst h0; rfl
    · rw [if_neg h0, split_eq l (by omega) h0]
end Go.AM
namespace Go.AM
open Go Go.Proofs
set_option linter.unusedVariables false
noncomputable section
/-! ### function 4: papermill/papermilllaw07.FieldSplits -/
def K4 (k : Nat) : Calld := ⟨fun g => match g with
  | 16 => some [false]
  | 18 => some [false, false]
  | 13 => some []
  | 17 => some [false]
  | _ => none, fun g xs _ => match g with
  | 16 => match xs with
    | [.r (.v (.string line_))] => some (res16 (v16 k line_), bo16 (v16 k line_))
    | _ => none
  | 18 => match xs with
    | [.r (.ro t0_ q0), .r (.ro t1_ q1)] => (castL t0_ RTy.str q0).bind fun a_ => (castL t1_ RTy.str q1).bind fun b_ => some (res18 (v18 k a_ b_), bo18 (v18 k a_ b_))
    | _ => none
  | 13 => match xs with
    | [] => some (res13 (v13 k ), bo13 (v13 k ))
    | _ => none
  | 17 => match xs with
    | [.r (.v (.string line_))] => some (res17 (v17 k line_), bo17 (v17 k line_))
    | _ => none
  | _ => none⟩
abbrev R4 : Type := Bool
def res4 (r : R4) : AV := .r (.v (.bool r))
def bo4 (r : R4) : List (Nat × Blk) := []
def f4 (k : Nat) (line_ : ByteArray) : Option R4 :=
  bif (decide ((↑line_.size : Int) > (1500 : Int))) then
    if ((f13 k ).isSome = true) then
      some (v13 k)
    else none
  else
    if ((f16 k line_).isSome = true) then
      if ((f17 k line_).isSome = true) then
        bif (v18 k (v16 k line_).snd (v17 k line_).snd && (v16 k line_).fst == (v17 k line_).fst) then
          if ((f18 k (v16 k line_).snd (v17 k line_).snd).isSome = true) ∧ ((v18 k (v16 k line_).snd (v17 k line_).snd && (v16 k line_).fst == (v17 k line_).fst) = true) ∧ ((f13 k ).isSome = true) then
            some (true && v13 k)
          else none
        else
          if ((f18 k (v16 k line_).snd (v17 k line_).snd).isSome = true) ∧ ((v18 k (v16 k line_).snd (v17 k line_).snd && (v16 k line_).fst == (v17 k line_).fst) = false) then
            some false
          else none
      else none
    else none
def args4 (line_ : ByteArray) : List AV := [.r (.v (.string line_))]
def v4 (k : Nat) (line_ : ByteArray) : R4 := (f4 k line_).getD false
theorem of4 (k : Nat) (line_ : ByteArray) (r : R4) (h : f4 k line_ = some r) : CC Tryd.prog 4 (args4 line_) [] (res4 r) (bo4 r) := by
  refine CC.of (fn := Tryd.f4) (by kernel_rfl) (by kernel_rfl) (by kernel_rfl) (by kernel_rfl) ?_
  unfold f4 at h
  refine Ev.tree hm (R := Rt) (K := (K4 k)) (l := []) (C := []) (E := [.auto [2] true]) (n := 1000) (T := .test ((decide ((↑line_.size : Int) > (1500 : Int)))) (.need [CC Tryd.prog 13 (args13 ) [] (res13 (v13 k )) (bo13 (v13 k ))] (.leaf (res4 (v13 k)) (bo4 (v13 k)))) (.need [CC Tryd.prog 16 (args16 line_) [] (res16 (v16 k line_)) (bo16 (v16 k line_))] (.need [CC Tryd.prog 17 (args17 line_) [] (res17 (v17 k line_)) (bo17 (v17 k line_))] (.test ((v18 k (v16 k line_).snd (v17 k line_).snd && (v16 k line_).fst == (v17 k line_).fst)) (.need [CC Tryd.prog 18 (args18 (v16 k line_).snd (v17 k line_).snd) [] (res18 (v18 k (v16 k line_).snd (v17 k line_).snd)) (bo18 (v18 k (v16 k line_).snd (v17 k line_).snd)), (v18 k (v16 k line_).snd (v17 k line_).snd && (v16 k line_).fst == (v17 k line_).fst) = true, CC Tryd.prog 13 (args13 ) [] (res13 (v13 k )) (bo13 (v13 k ))] (.leaf (res4 (true && v13 k)) (bo4 (true && v13 k)))) (.need [CC Tryd.prog 18 (args18 (v16 k line_).snd (v17 k line_).snd) [] (res18 (v18 k (v16 k line_).snd (v17 k line_).snd)) (bo18 (v18 k (v16 k line_).snd (v17 k line_).snd)), (v18 k (v16 k line_).snd (v17 k line_).snd && (v16 k line_).fst == (v17 k line_).fst) = false] (.leaf (res4 false) (bo4 false))))))) (by kernel_rfl) ?_
  refine ⟨fun c => ?_, fun c => ?_⟩
  · rw [cond_t c] at h
    by_cases q : ((f13 k ).isSome = true)
    · rw [if_pos q] at h
      refine ⟨(conjC (cc13 k  q) conj0), ?_⟩
      cases h; exact ⟨rfl, rfl⟩
    · rw [if_neg q] at h; cases h
  · rw [cond_f c] at h
    by_cases q : ((f16 k line_).isSome = true)
    · rw [if_pos q] at h
      refine ⟨(conjC (cc16 k line_ q) conj0), ?_⟩
      by_cases q : ((f17 k line_).isSome = true)
      · rw [if_pos q] at h
        refine ⟨(conjC (cc17 k line_ q) conj0), ?_⟩
        refine ⟨fun c => ?_, fun c => ?_⟩
        · rw [cond_t c] at h
          by_cases q : ((f18 k (v16 k line_).snd (v17 k line_).snd).isSome = true) ∧ ((v18 k (v16 k line_).snd (v17 k line_).snd && (v16 k line_).fst == (v17 k line_).fst) = true) ∧ ((f13 k ).isSome = true)
          · rw [if_pos q] at h
            refine ⟨(conjC (cc18 k (v16 k line_).snd (v17 k line_).snd q.1) (conjC q.2.1 (conjC (cc13 k  q.2.2) conj0))), ?_⟩
            cases h; exact ⟨rfl, rfl⟩
          · rw [if_neg q] at h; cases h
        · rw [cond_f c] at h
          by_cases q : ((f18 k (v16 k line_).snd (v17 k line_).snd).isSome = true) ∧ ((v18 k (v16 k line_).snd (v17 k line_).snd && (v16 k line_).fst == (v17 k line_).fst) = false)
          · rw [if_pos q] at h
            refine ⟨(conjC (cc18 k (v16 k line_).snd (v17 k line_).snd q.1) (conjC q.2 conj0)), ?_⟩
            cases h; exact ⟨rfl, rfl⟩
          · rw [if_neg q] at h; cases h
      · rw [if_neg q] at h; cases h
    · rw [if_neg q] at h; cases h
theorem cc4 (k : Nat) (line_ : ByteArray) (h : (f4 k line_).isSome = true) : CC Tryd.prog 4 (args4 line_) [] (res4 (v4 k line_)) (bo4 (v4 k line_)) := by
  cases e : f4 k line_ with
  | none => rw [e] at h; cases h
  | some r => rw [show v4 k line_ = r by simp [v4, e]]; exact of4 k line_ r e

end
end Go.AM
namespace Go.AM
open Go Go.Proofs Go.Lib

theorem splT_len (l : List UInt8) : (splT l).2.length ≤ 1025 := by
  unfold splT
  by_cases h : 1024 < l.length
  · rw [if_pos h]; simp
  · rw [if_neg h]
    by_cases h0 : l = []
    · rw [if_pos h0]; simp
    · rw [if_neg h0]
      rcases spl_code (l.length + 1) l [] with e | e
      · obtain ⟨m, h1, h2, h3, h4, h5⟩ := spl_inv (l.length + 1) l [] (spl (l.length + 1) l []).2 (by rw [← e])
        rw [h2, List.nil_append]; omega
      · rw [e]; simp
theorem f18_l (k : Nat) (a : List ByteArray) (ha : a.length ≤ 1000000) : ∀ (j i : Nat), i ≤ a.length → a.length - i < j → f18_4 k j a a (i : Int) = some true
  | 0, i, _, h => by omega
  | j + 1, i, hi, hj => by
    unfold f18_4
    by_cases hlt : i < a.length
    · rw [decide_eq_true (by omega : (i : Int) < (a.length : Int)), cond_true, if_pos ⟨by omega, by omega, by omega, by omega⟩, wrapS i (by omega)]
      have : (!ByteArray.toList (a.getD (i : Int).toNat RTy.str.dflt) == ByteArray.toList (a.getD (i : Int).toNat RTy.str.dflt)) = false := by simp
      rw [this, cond_false]
      exact f18_l k a ha j (i + 1) (by omega) (by omega)
    · rw [decide_eq_false (by omega : ¬ (i : Int) < (a.length : Int))]; rfl
theorem f18_s (k : Nat) (a : List ByteArray) (ha : a.length ≤ 1000000) (hk : 1000001 ≤ k) : f18 k a a = some true := by
  unfold f18
  have := f18_l k a ha k 0 (by omega) (by omega)
  rw [show ((0 : Nat) : Int) = 0 from rfl] at this
  rw [this]
  simp
def KS : Nat := 4000000
theorem f13_S : f13 KS = some true := f13_n 3999400
theorem f4_k (k : Nat) (hk : 4000000 ≤ k) (h13 : f13 k = some true) (s : ByteArray) : f4 k s = some true := by
  have v13e : v13 k = true := by unfold v13; rw [h13]; rfl
  unfold f4
  rw [h13, v13e, ← of_list s]
  generalize s.data.toList = l
  have e16 := f16_s k (by omega) l
  have e17 := f17_s k hk l
  have g16 : v16 k (mkL l) = splT l := by unfold v16; rw [e16]; rfl
  have g17 : v17 k (mkL l) = splT l := by unfold v17; rw [e17]; rfl
  have hl := splT_len l
  have e18 := f18_s k (splT l).2 (by omega) (by omega)
  have g18 : v18 k (splT l).2 (splT l).2 = true := by unfold v18; rw [e18]; rfl
  rw [e16, e17, g16, g17, e18, g18]
  generalize splT l = r
  cases decide (((mkL l).size : Int) > 1500) <;> simp
theorem f4_j (s : ByteArray) : f4 KS s = some true := f4_k KS (Nat.le_refl 4000000) f13_S s
end Go.AM
namespace Go.AM
open Go

/-- a call with plain arguments that returns a fresh row of strings -/
theorem cc_strs {P : Program} [GT P] {f : FuncId} {xs : List Value} {l : List ByteArray} {t : TypeId} (hl : l.length ≤ maxLen) (hf : ∃ fn c, P.funcs[f]? = some fn ∧ fn.body = some c ∧ (fn.name == "runtime.NumGoroutine") = false)
    (h : ∀ w : World, GT.G P w → Calls P f xs.toArray w fun e w' => ∃ w1, Ext w w1 ∧ e = .returned (.slice (some ⟨w1.heap.size, 0, none⟩) l.length l.length) ∧ w' = w1.alloc (.cells (l.map Value.string).toArray t)) : CC P f (rvals xs) [] (.own 0 0) [(0, .row t .str l)] := by
  refine ⟨hf, fun cx env vs hwf hG hh hent hm hs hargs => ?_⟩
  obtain ⟨top, h1, h2, h3, h4⟩ := hG
  have hlen : ∀ l : List Value, (rvals l).length = l.length := fun l => by induction l <;> simp [rvals, *]
  have hget : ∀ (l : List Value) (i : Nat), i < l.length → (rvals l).getD i .undef = .r (.v (l.getD i Go.undef)) := fun l => by
    induction l with
    | nil => intro i h; simp at h
    | cons x l ih =>
      intro i h
      cases i with
      | zero => rfl
      | succ i => simpa [rvals] using ih i (by simpa using h)
  have hvs : vs = xs.toArray := by
    refine Array.ext (by rw [hs, hlen]; simp) fun i hi hi2 => ?_
    have hi3 : i < xs.length := by simpa using hi2
    have := hargs i (by rw [hlen]; exact hi3)
    rw [hget xs i hi3] at this
    have := rep_v_inv this
    simpa [hi, hi3] using this
  subst hvs
  have none : ∀ n, env n = none := fun n => hm.dom n rfl (hh n)
  have nent : ∀ nm h0, cx.ent nm = some h0 → False := fun nm h0 e => by
    have := (hent nm h0).1 e
    rw [none] at this; cases this
  refine (h cx.w0 (GT.keep _ _ h3 h1)).mono fun e w' ⟨w1, hE, he, hw⟩ => ?_
  subst hw
  have hput : ∀ nm v x, env.put 0 0 (.slice (some ⟨w1.heap.size, 0, Option.none⟩) l.length l.length) nm = some (v, x) → nm = 0 ∧ v = 0 ∧ x = .slice (some ⟨w1.heap.size, 0, Option.none⟩) l.length l.length := fun nm v x e => by
    unfold Env.put at e
    split at e
    · rename_i hn
      simp at e
      exact ⟨hn, e.1.symm, e.2.symm⟩
    · rw [none] at e; cases e
  have hheap : (w1.alloc (.cells (l.map Value.string).toArray t)).heap.size = w1.heap.size + 1 := by simp
  refine ⟨_, env.put 0 0 (.slice (some ⟨w1.heap.size, 0, Option.none⟩) l.length l.length), he, ⟨fun nm ver b e => ?_, fun nm e _ => ?_, fun nm h => absurd h (hh nm), fun nm nm' v v' h h' B e e' _ _ => ?_, fun nm v h B e hb => ?_, ?_, fun B hB _ => ?_, fun nm h h0 _ e0 => (nent nm h0 e0).elim, fun nm h0 e0 => (nent nm h0 e0).elim⟩, ?_⟩
  · have hn : nm = 0 ∧ ver = 0 ∧ b = .row t .str l := by
      simp only [numB, getB] at e
      cases hq : Nat.beq 0 nm <;> simp only [hq, cond_true, cond_false] at e
      · cases e
      · have := Nat.eq_of_beq_eq_true hq
        simp at e
        exact ⟨this.symm, e.1.symm, e.2.symm⟩
    obtain ⟨rfl, rfl, rfl⟩ := hn
    refine ⟨.slice (some ⟨w1.heap.size, 0, Option.none⟩) l.length l.length, by simp [Env.put], ?_⟩
    refine .row w1.heap.size t .str l l.length (l.map Value.string).toArray (heap_alloc_new w1 _) (Nat.le_refl _) hl (by simp [RTy.sz]) fun k hk => ?_
    have hk' : k < l.length := by simpa [RTy.sz] using hk
    have e1 : (l.map Value.string).toArray.getD k Go.undef = .string l[k] := by simp [hk']
    have e2 : ∀ (l : List ByteArray) (k : Nat) (h : k < l.length), (encL .str l).getD k .undef = .v (.string l[k]) := fun l => by
      induction l with
      | nil => intro k h; simp at h
      | cons x l ih =>
        intro k h
        cases k with
        | zero => rfl
        | succ k => simpa [encL, enc] using ih k (by simpa using h)
    rw [e1, e2 l k hk']
    exact .v _
  · unfold Env.put
    split
    · rename_i hn
      subst hn
      simp [numB, getB] at e
    · exact none nm
  · rw [(hput _ _ _ e).1, (hput _ _ _ e').1]
  · obtain ⟨rfl, rfl, rfl⟩ := hput _ _ _ e
    simp only [hblk, Option.some.injEq] at hb
    subst hb
    exact ⟨.inl hE.grew.size, by rw [hheap]; omega⟩
  · exact hE.grew.trans ⟨by rw [hheap]; omega, rfl, rfl⟩
  · rw [heap_alloc_old w1 _ (Nat.lt_of_lt_of_le hB hE.grew.size)]
    exact hE.frame B hB
  · exact .own ⟨0, _, by simp [Env.put], Nat.le_refl _, fun _ => rfl⟩
end Go.AM
namespace Go.AM
open Go Go.Proofs
set_option linter.unusedVariables false
noncomputable section
abbrev R27 : Type := ByteArray
def res27 (r : R27) : AV := .r (.v (.string r))
def bo27 (r : R27) : List (Nat × Blk) := []
def f27 (k : Nat) (s_ : ByteArray) (n_ : Int) : Option R27 := bif (Nat.ble s_.size 1000 && (decide (0 ≤ n_) && decide (n_ ≤ 1000))) then some (mkL (Lib.repeatL s_.data.toList n_.toNat)) else none
def args27 (s_ : ByteArray) (n_ : Int) : List AV := [.r (.v (.string s_)), .r (.v (.int .i64 n_))]
def v27 (k : Nat) (s_ : ByteArray) (n_ : Int) : R27 := (f27 k s_ n_).getD ByteArray.empty
theorem of27 (k : Nat) (s_ : ByteArray) (n_ : Int) (r : R27) (h : f27 k s_ n_ = some r) : CC Tryd.prog 27 (args27 s_ n_) [] (res27 r) (bo27 r) := by
  unfold f27 at h
  cases q : (Nat.ble s_.size 1000 && (decide (0 ≤ n_) && decide (n_ ≤ 1000))) <;> rw [q] at h
  · cases h
  · cases h
    simp only [Bool.and_eq_true, Nat.ble_eq, decide_eq_true_eq] at q
    refine cc_plain (xs := [.string s_, .int .i64 n_]) ⟨Tryd.f27, _, Tryd.func27, rfl, by kernel_rfl⟩ fun w hG => ?_
    have hn : ((n_.toNat : Nat) : Int) = n_ := by omega
    have h1 : s_.size * n_.toNat ≤ 1000 * 1000 := Nat.mul_le_mul q.1 (by omega)
    have := Tryd.strings_Repeat s_ n_.toNat w (by omega) (by omega)
    rw [hn] at this
    refine this.mono fun e w' ⟨he, hw⟩ => ?_
    exact ⟨he, below_grew hw, below_frame hw⟩
theorem cc27 (k : Nat) (s_ : ByteArray) (n_ : Int) (h : (f27 k s_ n_).isSome = true) : CC Tryd.prog 27 (args27 s_ n_) [] (res27 (v27 k s_ n_)) (bo27 (v27 k s_ n_)) := by
  cases e : f27 k s_ n_ with
  | none => rw [e] at h; cases h
  | some r => rw [show v27 k s_ n_ = r by simp [v27, e]]; exact of27 k s_ n_ r e

end
end Go.AM
namespace Go.AM
open Go Go.Proofs
set_option linter.unusedVariables false
noncomputable section
/-! ### function 10: papermill/papermilllaw07.FieldLimits -/
def K10 (k : Nat) : Calld := ⟨fun g => match g with
  | 14 => some [false]
  | 16 => some [false]
  | 18 => some [false, false]
  | 13 => some []
  | 15 => some [false]
  | 17 => some [false]
  | 27 => some [false, false]
  | _ => none, fun g xs _ => match g with
  | 14 => match xs with
    | [.r (.ro t0_ q0)] => (castL t0_ RTy.str q0).bind fun fields_ => some (res14 (v14 k fields_), bo14 (v14 k fields_))
    | _ => none
  | 16 => match xs with
    | [.r (.v (.string line_))] => some (res16 (v16 k line_), bo16 (v16 k line_))
    | _ => none
  | 18 => match xs with
    | [.r (.ro t0_ q0), .r (.ro t1_ q1)] => (castL t0_ RTy.str q0).bind fun a_ => (castL t1_ RTy.str q1).bind fun b_ => some (res18 (v18 k a_ b_), bo18 (v18 k a_ b_))
    | _ => none
  | 13 => match xs with
    | [] => some (res13 (v13 k ), bo13 (v13 k ))
    | _ => none
  | 15 => match xs with
    | [.r (.ro t0_ q0)] => (castL t0_ RTy.str q0).bind fun fields_ => some (res15 (v15 k fields_), bo15 (v15 k fields_))
    | _ => none
  | 17 => match xs with
    | [.r (.v (.string line_))] => some (res17 (v17 k line_), bo17 (v17 k line_))
    | _ => none
  | 27 => match xs with
    | [.r (.v (.string s_)), .r (.v (.int .i64 count_))] => some (res27 (v27 k s_ count_), bo27 (v27 k s_ count_))
    | _ => none
  | _ => none⟩
abbrev R10 : Type := Bool
def res10 (r : R10) : AV := .r (.v (.bool r))
def bo10 (r : R10) : List (Nat × Blk) := []
def st10_3 (x0 : ByteArray) (x1 : ByteArray) : St := ⟨mkS 103 [(7, .r (.v (.string x0))), (8, .r (.v (.string x1)))], []⟩
def st10_5 (x0 : ByteArray) (x1 : ByteArray) (x2 : ByteArray) (x3 : Int) (x4 : ByteArray) (x5 : Int) : St := ⟨mkS 103 [(7, .r (.v (.string x0))), (8, .r (.v (.string x1))), (9, .r (.v (.string x2))), (10, .r (.v (.int .i64 x3))), (11, .r (.v (.string x4))), (12, .r (.v (.int .i64 x5)))], []⟩
def st10_6 (x0 : ByteArray) (x1 : ByteArray) (x2 : ByteArray) (x3 : Int) (x4 : ByteArray) (x5 : Int) (x6 : Int) (x7 : List (RTy.str).T) : St := ⟨mkS 103 [(7, .r (.v (.string x0))), (8, .r (.v (.string x1))), (9, .r (.v (.string x2))), (10, .r (.v (.int .i64 x3))), (11, .r (.v (.string x4))), (12, .r (.v (.int .i64 x5))), (13, .own 1000000 0), (14, .r (.v (.int .i64 x6)))], [(1000000, 0, .row 9 RTy.str x7)]⟩
def st10_7 (x0 : ByteArray) (x1 : Int) (x2 : ByteArray) (x3 : Int) (x4 : Int) (x5 : Int) (x6 : List (RTy.str).T) (x7 : List (RTy.str).T) : St := ⟨mkS 103 [(9, .r (.v (.string x0))), (10, .r (.v (.int .i64 x1))), (11, .r (.v (.string x2))), (12, .r (.v (.int .i64 x3))), (13, .own 1000000 0), (14, .r (.v (.int .i64 x4))), (15, .own 1000001 0), (16, .r (.v (.int .i64 x5)))], [(1000000, 0, .row 9 RTy.str x6), (1000001, 0, .row 9 RTy.str x7)]⟩
mutual
def f10_3 (k : Nat) : Nat → ByteArray → ByteArray → Option R10
  | 0, _, _ => none
  | j + 1, x0, x1 =>
    if ((f14 k [x0, x1, x1, x1, x0]).isSome = true) then
      if ((f15 k [x0, x1, x1, x1, x0]).isSome = true) then
        f10_5 k j x0 x1 ((v14 k [x0, x1, x1, x1, x0]).fst) ((v14 k [x0, x1, x1, x1, x0]).snd) ((v15 k [x0, x1, x1, x1, x0]).fst) ((v15 k [x0, x1, x1, x1, x0]).snd)
      else none
    else none
def f10_5 (k : Nat) : Nat → ByteArray → ByteArray → ByteArray → Int → ByteArray → Int → Option R10
  | 0, _, _, _, _, _, _ => none
  | j + 1, x0, x1, x2, x3, x4, x5 =>
    if ((↑ (x0.size + (ByteArray.mk #[(32 : UInt8)]).size) : Int) ≤ IntKind.i64.max) ∧ ((↑ ((x0 ++ (ByteArray.mk #[(32 : UInt8)])).size + x1.size) : Int) ≤ IntKind.i64.max) ∧ ((↑ ((x0 ++ (ByteArray.mk #[(32 : UInt8)]) ++ x1).size + (ByteArray.mk #[(32 : UInt8)]).size) : Int) ≤ IntKind.i64.max) ∧ ((↑ ((x0 ++ (ByteArray.mk #[(32 : UInt8)]) ++ x1 ++ (ByteArray.mk #[(32 : UInt8)])).size + x1.size) : Int) ≤ IntKind.i64.max) ∧ ((↑ ((x0 ++ (ByteArray.mk #[(32 : UInt8)]) ++ x1 ++ (ByteArray.mk #[(32 : UInt8)]) ++ x1).size + (ByteArray.mk #[(32 : UInt8)]).size) : Int) ≤ IntKind.i64.max) ∧ ((↑ ((x0 ++ (ByteArray.mk #[(32 : UInt8)]) ++ x1 ++ (ByteArray.mk #[(32 : UInt8)]) ++ x1 ++ (ByteArray.mk #[(32 : UInt8)])).size + x1.size) : Int) ≤ IntKind.i64.max) ∧ ((↑ ((x0 ++ (ByteArray.mk #[(32 : UInt8)]) ++ x1 ++ (ByteArray.mk #[(32 : UInt8)]) ++ x1 ++ (ByteArray.mk #[(32 : UInt8)]) ++ x1).size + (ByteArray.mk #[(32 : UInt8)]).size) : Int) ≤ IntKind.i64.max) ∧ ((↑ ((x0 ++ (ByteArray.mk #[(32 : UInt8)]) ++ x1 ++ (ByteArray.mk #[(32 : UInt8)]) ++ x1 ++ (ByteArray.mk #[(32 : UInt8)]) ++ x1 ++ (ByteArray.mk #[(32 : UInt8)])).size + x0.size) : Int) ≤ IntKind.i64.max) ∧ ((f16 k (x0 ++ (ByteArray.mk #[32]) ++ x1 ++ (ByteArray.mk #[32]) ++ x1 ++ (ByteArray.mk #[32]) ++ x1 ++ (ByteArray.mk #[32]) ++ x0)).isSome = true) then
      f10_6 k j x0 x1 x2 x3 x4 x5 ((v16 k (x0 ++ (ByteArray.mk #[32]) ++ x1 ++ (ByteArray.mk #[32]) ++ x1 ++ (ByteArray.mk #[32]) ++ x1 ++ (ByteArray.mk #[32]) ++ x0)).fst) ((v16 k (x0 ++ (ByteArray.mk #[32]) ++ x1 ++ (ByteArray.mk #[32]) ++ x1 ++ (ByteArray.mk #[32]) ++ x1 ++ (ByteArray.mk #[32]) ++ x0)).snd)
    else none
def f10_6 (k : Nat) : Nat → ByteArray → ByteArray → ByteArray → Int → ByteArray → Int → Int → List (RTy.str).T → Option R10
  | 0, _, _, _, _, _, _, _, _ => none
  | j + 1, x0, x1, x2, x3, x4, x5, x6, x7 =>
    if ((↑ (x0.size + (ByteArray.mk #[(32 : UInt8)]).size) : Int) ≤ IntKind.i64.max) ∧ ((↑ ((x0 ++ (ByteArray.mk #[(32 : UInt8)])).size + x1.size) : Int) ≤ IntKind.i64.max) ∧ ((↑ ((x0 ++ (ByteArray.mk #[(32 : UInt8)]) ++ x1).size + (ByteArray.mk #[(32 : UInt8)]).size) : Int) ≤ IntKind.i64.max) ∧ ((↑ ((x0 ++ (ByteArray.mk #[(32 : UInt8)]) ++ x1 ++ (ByteArray.mk #[(32 : UInt8)])).size + x1.size) : Int) ≤ IntKind.i64.max) ∧ ((↑ ((x0 ++ (ByteArray.mk #[(32 : UInt8)]) ++ x1 ++ (ByteArray.mk #[(32 : UInt8)]) ++ x1).size + (ByteArray.mk #[(32 : UInt8)]).size) : Int) ≤ IntKind.i64.max) ∧ ((↑ ((x0 ++ (ByteArray.mk #[(32 : UInt8)]) ++ x1 ++ (ByteArray.mk #[(32 : UInt8)]) ++ x1 ++ (ByteArray.mk #[(32 : UInt8)])).size + x1.size) : Int) ≤ IntKind.i64.max) ∧ ((↑ ((x0 ++ (ByteArray.mk #[(32 : UInt8)]) ++ x1 ++ (ByteArray.mk #[(32 : UInt8)]) ++ x1 ++ (ByteArray.mk #[(32 : UInt8)]) ++ x1).size + (ByteArray.mk #[(32 : UInt8)]).size) : Int) ≤ IntKind.i64.max) ∧ ((↑ ((x0 ++ (ByteArray.mk #[(32 : UInt8)]) ++ x1 ++ (ByteArray.mk #[(32 : UInt8)]) ++ x1 ++ (ByteArray.mk #[(32 : UInt8)]) ++ x1 ++ (ByteArray.mk #[(32 : UInt8)])).size + x0.size) : Int) ≤ IntKind.i64.max) ∧ ((f17 k (x0 ++ (ByteArray.mk #[32]) ++ x1 ++ (ByteArray.mk #[32]) ++ x1 ++ (ByteArray.mk #[32]) ++ x1 ++ (ByteArray.mk #[32]) ++ x0)).isSome = true) then
      f10_7 k j x2 x3 x4 x5 x6 ((v17 k (x0 ++ (ByteArray.mk #[32]) ++ x1 ++ (ByteArray.mk #[32]) ++ x1 ++ (ByteArray.mk #[32]) ++ x1 ++ (ByteArray.mk #[32]) ++ x0)).fst) x7 ((v17 k (x0 ++ (ByteArray.mk #[32]) ++ x1 ++ (ByteArray.mk #[32]) ++ x1 ++ (ByteArray.mk #[32]) ++ x1 ++ (ByteArray.mk #[32]) ++ x0)).snd)
    else none
def f10_7 (k : Nat) : Nat → ByteArray → Int → ByteArray → Int → Int → Int → List (RTy.str).T → List (RTy.str).T → Option R10
  | 0, _, _, _, _, _, _, _, _ => none
  | j + 1, x0, x1, x2, x3, x4, x5, x6, x7 =>
    bif (x0.toList == x2.toList && x1 == x3) then
      bif (true && v18 k x6 x7 && x4 == x5) then
        if ((x0.toList == x2.toList && x1 == x3) = true) ∧ ((f18 k x6 x7).isSome = true) ∧ ((true && v18 k x6 x7 && x4 == x5) = true) ∧ ((f13 k ).isSome = true) then
          some (true && v13 k)
        else none
      else
        if ((x0.toList == x2.toList && x1 == x3) = true) ∧ ((f18 k x6 x7).isSome = true) ∧ ((true && v18 k x6 x7 && x4 == x5) = false) then
          some false
        else none
    else
      bif (false && x4 == x5) then
        if ((x0.toList == x2.toList && x1 == x3) = false) ∧ ((false && x4 == x5) = true) ∧ ((f13 k ).isSome = true) then
          some (true && v13 k)
        else none
      else
        if ((x0.toList == x2.toList && x1 == x3) = false) ∧ ((false && x4 == x5) = false) then
          some false
        else none
end
def f10 (k : Nat) (n_ : Int) (m_ : Int) (c_ : Int) : Option R10 :=
  if ((300 : Int) ≠ (0 : Int)) ∧ ((f27 k (bytesOf8 [c_]) (IntKind.i64.wrap (n_.tmod 300))).isSome = true) then
    if ((300 : Int) ≠ (0 : Int)) ∧ ((f27 k (ByteArray.mk #[120]) (IntKind.i64.wrap (m_.tmod 300))).isSome = true) then
      f10_3 k k ((v27 k (bytesOf8 [c_]) (IntKind.i64.wrap (n_.tmod 300)))) ((v27 k (ByteArray.mk #[120]) (IntKind.i64.wrap (m_.tmod 300))))
    else none
  else none
def args10 (n_ : Int) (m_ : Int) (c_ : Int) : List AV := [.r (.v (.int .u16 n_)), .r (.v (.int .u16 m_)), .r (.v (.int .u8 c_))]
def v10 (k : Nat) (n_ : Int) (m_ : Int) (c_ : Int) : R10 := (f10 k n_ m_ c_).getD false
theorem ev10 (k : Nat) : ∀ j, (∀ (x0 : ByteArray) (x1 : ByteArray) (r : R10), f10_3 k j x0 x1 = some r → Ev Tryd.prog Tryd.f10 0 (placeAt Tryd.f10 3) (st10_3 x0 x1) (res10 r) (bo10 r)) ∧ (∀ (x0 : ByteArray) (x1 : ByteArray) (x2 : ByteArray) (x3 : Int) (x4 : ByteArray) (x5 : Int) (r : R10), f10_5 k j x0 x1 x2 x3 x4 x5 = some r → Ev Tryd.prog Tryd.f10 0 (placeAt Tryd.f10 5) (st10_5 x0 x1 x2 x3 x4 x5) (res10 r) (bo10 r)) ∧ (∀ (x0 : ByteArray) (x1 : ByteArray) (x2 : ByteArray) (x3 : Int) (x4 : ByteArray) (x5 : Int) (x6 : Int) (x7 : List (RTy.str).T) (r : R10), f10_6 k j x0 x1 x2 x3 x4 x5 x6 x7 = some r → Ev Tryd.prog Tryd.f10 0 (placeAt Tryd.f10 6) (st10_6 x0 x1 x2 x3 x4 x5 x6 x7) (res10 r) (bo10 r)) ∧ (∀ (x0 : ByteArray) (x1 : Int) (x2 : ByteArray) (x3 : Int) (x4 : Int) (x5 : Int) (x6 : List (RTy.str).T) (x7 : List (RTy.str).T) (r : R10), f10_7 k j x0 x1 x2 x3 x4 x5 x6 x7 = some r → Ev Tryd.prog Tryd.f10 0 (placeAt Tryd.f10 7) (st10_7 x0 x1 x2 x3 x4 x5 x6 x7) (res10 r) (bo10 r))
  | 0 => by
    refine ⟨?_, ?_, ?_, ?_⟩ <;> intros <;> rename_i h <;> simp [f10_3, f10_5, f10_6, f10_7] at h
  | j + 1 => by
    have ih := ev10 k j
    refine ⟨?_, ?_, ?_, ?_⟩
    · intro x0 x1 r h
      rw [f10_3] at h
      refine Ev.tree hm (R := Rt) (K := (K10 k)) (l := [3, 5, 6, 7]) (C := [(3, [.auto [7, 8] false]), (5, [.auto [7, 8, 9, 10, 11, 12] false]), (6, [.auto [7, 8, 9, 10, 11, 12, 13, 14] false]), (7, [.auto [9, 10, 11, 12, 13, 14, 15, 16] false])]) (E := [.auto [6] true]) (n := 1000) (T := .need [CC Tryd.prog 14 (args14 [x0, x1, x1, x1, x0]) [] (res14 (v14 k [x0, x1, x1, x1, x0])) (bo14 (v14 k [x0, x1, x1, x1, x0]))] (.need [CC Tryd.prog 15 (args15 [x0, x1, x1, x1, x0]) [] (res15 (v15 k [x0, x1, x1, x1, x0])) (bo15 (v15 k [x0, x1, x1, x1, x0]))] (.cut 5 (placeAt Tryd.f10 5) (st10_5 x0 x1 ((v14 k [x0, x1, x1, x1, x0]).fst) ((v14 k [x0, x1, x1, x1, x0]).snd) ((v15 k [x0, x1, x1, x1, x0]).fst) ((v15 k [x0, x1, x1, x1, x0]).snd))))) (by kernel_rfl) ?_
      by_cases q : ((f14 k [x0, x1, x1, x1, x0]).isSome = true)
      · rw [if_pos q] at h
        refine ⟨(conjC (cc14 k [x0, x1, x1, x1, x0] q) conj0), ?_⟩
        by_cases q : ((f15 k [x0, x1, x1, x1, x0]).isSome = true)
        · rw [if_pos q] at h
          refine ⟨(conjC (cc15 k [x0, x1, x1, x1, x0] q) conj0), ?_⟩
          exact ih.2.1 x0 x1 ((v14 k [x0, x1, x1, x1, x0]).fst) ((v14 k [x0, x1, x1, x1, x0]).snd) ((v15 k [x0, x1, x1, x1, x0]).fst) ((v15 k [x0, x1, x1, x1, x0]).snd) _ h
        · rw [if_neg q] at h; cases h
      · rw [if_neg q] at h; cases h
    · intro x0 x1 x2 x3 x4 x5 r h
      rw [f10_5] at h
      refine Ev.tree hm (R := Rt) (K := (K10 k)) (l := [3, 5, 6, 7]) (C := [(3, [.auto [7, 8] false]), (5, [.auto [7, 8, 9, 10, 11, 12] false]), (6, [.auto [7, 8, 9, 10, 11, 12, 13, 14] false]), (7, [.auto [9, 10, 11, 12, 13, 14, 15, 16] false])]) (E := [.auto [6] true]) (n := 1000) (T := .need [(↑ (x0.size + (ByteArray.mk #[(32 : UInt8)]).size) : Int) ≤ IntKind.i64.max, (↑ ((x0 ++ (ByteArray.mk #[(32 : UInt8)])).size + x1.size) : Int) ≤ IntKind.i64.max, (↑ ((x0 ++ (ByteArray.mk #[(32 : UInt8)]) ++ x1).size + (ByteArray.mk #[(32 : UInt8)]).size) : Int) ≤ IntKind.i64.max, (↑ ((x0 ++ (ByteArray.mk #[(32 : UInt8)]) ++ x1 ++ (ByteArray.mk #[(32 : UInt8)])).size + x1.size) : Int) ≤ IntKind.i64.max, (↑ ((x0 ++ (ByteArray.mk #[(32 : UInt8)]) ++ x1 ++ (ByteArray.mk #[(32 : UInt8)]) ++ x1).size + (ByteArray.mk #[(32 : UInt8)]).size) : Int) ≤ IntKind.i64.max, (↑ ((x0 ++ (ByteArray.mk #[(32 : UInt8)]) ++ x1 ++ (ByteArray.mk #[(32 : UInt8)]) ++ x1 ++ (ByteArray.mk #[(32 : UInt8)])).size + x1.size) : Int) ≤ IntKind.i64.max, (↑ ((x0 ++ (ByteArray.mk #[(32 : UInt8)]) ++ x1 ++ (ByteArray.mk #[(32 : UInt8)]) ++ x1 ++ (ByteArray.mk #[(32 : UInt8)]) ++ x1).size + (ByteArray.mk #[(32 : UInt8)]).size) : Int) ≤ IntKind.i64.max, (↑ ((x0 ++ (ByteArray.mk #[(32 : UInt8)]) ++ x1 ++ (ByteArray.mk #[(32 : UInt8)]) ++ x1 ++ (ByteArray.mk #[(32 : UInt8)]) ++ x1 ++ (ByteArray.mk #[(32 : UInt8)])).size + x0.size) : Int) ≤ IntKind.i64.max, CC Tryd.prog 16 (args16 (x0 ++ (ByteArray.mk #[32]) ++ x1 ++ (ByteArray.mk #[32]) ++ x1 ++ (ByteArray.mk #[32]) ++ x1 ++ (ByteArray.mk #[32]) ++ x0)) [] (res16 (v16 k (x0 ++ (ByteArray.mk #[32]) ++ x1 ++ (ByteArray.mk #[32]) ++ x1 ++ (ByteArray.mk #[32]) ++ x1 ++ (ByteArray.mk #[32]) ++ x0))) (bo16 (v16 k (x0 ++ (ByteArray.mk #[32]) ++ x1 ++ (ByteArray.mk #[32]) ++ x1 ++ (ByteArray.mk #[32]) ++ x1 ++ (ByteArray.mk #[32]) ++ x0)))] (.cut 6 (placeAt Tryd.f10 6) (st10_6 x0 x1 x2 x3 x4 x5 ((v16 k (x0 ++ (ByteArray.mk #[32]) ++ x1 ++ (ByteArray.mk #[32]) ++ x1 ++ (ByteArray.mk #[32]) ++ x1 ++ (ByteArray.mk #[32]) ++ x0)).fst) ((v16 k (x0 ++ (ByteArray.mk #[32]) ++ x1 ++ (ByteArray.mk #[32]) ++ x1 ++ (ByteArray.mk #[32]) ++ x1 ++ (ByteArray.mk #[32]) ++ x0)).snd)))) (by kernel_rfl) ?_
      by_cases q : ((↑ (x0.size + (ByteArray.mk #[(32 : UInt8)]).size) : Int) ≤ IntKind.i64.max) ∧ ((↑ ((x0 ++ (ByteArray.mk #[(32 : UInt8)])).size + x1.size) : Int) ≤ IntKind.i64.max) ∧ ((↑ ((x0 ++ (ByteArray.mk #[(32 : UInt8)]) ++ x1).size + (ByteArray.mk #[(32 : UInt8)]).size) : Int) ≤ IntKind.i64.max) ∧ ((↑ ((x0 ++ (ByteArray.mk #[(32 : UInt8)]) ++ x1 ++ (ByteArray.mk #[(32 : UInt8)])).size + x1.size) : Int) ≤ IntKind.i64.max) ∧ ((↑ ((x0 ++ (ByteArray.mk #[(32 : UInt8)]) ++ x1 ++ (ByteArray.mk #[(32 : UInt8)]) ++ x1).size + (ByteArray.mk #[(32 : UInt8)]).size) : Int) ≤ IntKind.i64.max) ∧ ((↑ ((x0 ++ (ByteArray.mk #[(32 : UInt8)]) ++ x1 ++ (ByteArray.mk #[(32 : UInt8)]) ++ x1 ++ (ByteArray.mk #[(32 : UInt8)])).size + x1.size) : Int) ≤ IntKind.i64.max) ∧ ((↑ ((x0 ++ (ByteArray.mk #[(32 : UInt8)]) ++ x1 ++ (ByteArray.mk #[(32 : UInt8)]) ++ x1 ++ (ByteArray.mk #[(32 : UInt8)]) ++ x1).size + (ByteArray.mk #[(32 : UInt8)]).size) : Int) ≤ IntKind.i64.max) ∧ ((↑ ((x0 ++ (ByteArray.mk #[(32 : UInt8)]) ++ x1 ++ (ByteArray.mk #[(32 : UInt8)]) ++ x1 ++ (ByteArray.mk #[(32 : UInt8)]) ++ x1 ++ (ByteArray.mk #[(32 : UInt8)])).size + x0.size) : Int) ≤ IntKind.i64.max) ∧ ((f16 k (x0 ++ (ByteArray.mk #[32]) ++ x1 ++ (ByteArray.mk #[32]) ++ x1 ++ (ByteArray.mk #[32]) ++ x1 ++ (ByteArray.mk #[32]) ++ x0)).isSome = true)
      · rw [if_pos q] at h
        refine ⟨(conjC q.1 (conjC q.2.1 (conjC q.2.2.1 (conjC q.2.2.2.1 (conjC q.2.2.2.2.1 (conjC q.2.2.2.2.2.1 (conjC q.2.2.2.2.2.2.1 (conjC q.2.2.2.2.2.2.2.1 (conjC (cc16 k (x0 ++ (ByteArray.mk #[32]) ++ x1 ++ (ByteArray.mk #[32]) ++ x1 ++ (ByteArray.mk #[32]) ++ x1 ++ (ByteArray.mk #[32]) ++ x0) q.2.2.2.2.2.2.2.2) conj0))))))))), ?_⟩
        exact ih.2.2.1 x0 x1 x2 x3 x4 x5 ((v16 k (x0 ++ (ByteArray.mk #[32]) ++ x1 ++ (ByteArray.mk #[32]) ++ x1 ++ (ByteArray.mk #[32]) ++ x1 ++ (ByteArray.mk #[32]) ++ x0)).fst) ((v16 k (x0 ++ (ByteArray.mk #[32]) ++ x1 ++ (ByteArray.mk #[32]) ++ x1 ++ (ByteArray.mk #[32]) ++ x1 ++ (ByteArray.mk #[32]) ++ x0)).snd) _ h
      · rw [if_neg q] at h; cases h
    · intro x0 x1 x2 x3 x4 x5 x6 x7 r h
      rw [f10_6] at h
      refine Ev.tree hm (R := Rt) (K := (K10 k)) (l := [3, 5, 6, 7]) (C := [(3, [.auto [7, 8] false]), (5, [.auto [7, 8, 9, 10, 11, 12] false]), (6, [.auto [7, 8, 9, 10, 11, 12, 13, 14] false]), (7, [.auto [9, 10, 11, 12, 13, 14, 15, 16] false])]) (E := [.auto [6] true]) (n := 1000) (T := .need [(↑ (x0.size + (ByteArray.mk #[(32 : UInt8)]).size) : Int) ≤ IntKind.i64.max, (↑ ((x0 ++ (ByteArray.mk #[(32 : UInt8)])).size + x1.size) : Int) ≤ IntKind.i64.max, (↑ ((x0 ++ (ByteArray.mk #[(32 : UInt8)]) ++ x1).size + (ByteArray.mk #[(32 : UInt8)]).size) : Int) ≤ IntKind.i64.max, (↑ ((x0 ++ (ByteArray.mk #[(32 : UInt8)]) ++ x1 ++ (ByteArray.mk #[(32 : UInt8)])).size + x1.size) : Int) ≤ IntKind.i64.max, (↑ ((x0 ++ (ByteArray.mk #[(32 : UInt8)]) ++ x1 ++ (ByteArray.mk #[(32 : UInt8)]) ++ x1).size + (ByteArray.mk #[(32 : UInt8)]).size) : Int) ≤ IntKind.i64.max, (↑ ((x0 ++ (ByteArray.mk #[(32 : UInt8)]) ++ x1 ++ (ByteArray.mk #[(32 : UInt8)]) ++ x1 ++ (ByteArray.mk #[(32 : UInt8)])).size + x1.size) : Int) ≤ IntKind.i64.max, (↑ ((x0 ++ (ByteArray.mk #[(32 : UInt8)]) ++ x1 ++ (ByteArray.mk #[(32 : UInt8)]) ++ x1 ++ (ByteArray.mk #[(32 : UInt8)]) ++ x1).size + (ByteArray.mk #[(32 : UInt8)]).size) : Int) ≤ IntKind.i64.max, (↑ ((x0 ++ (ByteArray.mk #[(32 : UInt8)]) ++ x1 ++ (ByteArray.mk #[(32 : UInt8)]) ++ x1 ++ (ByteArray.mk #[(32 : UInt8)]) ++ x1 ++ (ByteArray.mk #[(32 : UInt8)])).size + x0.size) : Int) ≤ IntKind.i64.max, CC Tryd.prog 17 (args17 (x0 ++ (ByteArray.mk #[32]) ++ x1 ++ (ByteArray.mk #[32]) ++ x1 ++ (ByteArray.mk #[32]) ++ x1 ++ (ByteArray.mk #[32]) ++ x0)) [] (res17 (v17 k (x0 ++ (ByteArray.mk #[32]) ++ x1 ++ (ByteArray.mk #[32]) ++ x1 ++ (ByteArray.mk #[32]) ++ x1 ++ (ByteArray.mk #[32]) ++ x0))) (bo17 (v17 k (x0 ++ (ByteArray.mk #[32]) ++ x1 ++ (ByteArray.mk #[32]) ++ x1 ++ (ByteArray.mk #[32]) ++ x1 ++ (ByteArray.mk #[32]) ++ x0)))] (.cut 7 (placeAt Tryd.f10 7) (st10_7 x2 x3 x4 x5 x6 ((v17 k (x0 ++ (ByteArray.mk #[32]) ++ x1 ++ (ByteArray.mk #[32]) ++ x1 ++ (ByteArray.mk #[32]) ++ x1 ++ (ByteArray.mk #[32]) ++ x0)).fst) x7 ((v17 k (x0 ++ (ByteArray.mk #[32]) ++ x1 ++ (ByteArray.mk #[32]) ++ x1 ++ (ByteArray.mk #[32]) ++ x1 ++ (ByteArray.mk #[32]) ++ x0)).snd)))) (by kernel_rfl) ?_
      by_cases q : ((↑ (x0.size + (ByteArray.mk #[(32 : UInt8)]).size) : Int) ≤ IntKind.i64.max) ∧ ((↑ ((x0 ++ (ByteArray.mk #[(32 : UInt8)])).size + x1.size) : Int) ≤ IntKind.i64.max) ∧ ((↑ ((x0 ++ (ByteArray.mk #[(32 : UInt8)]) ++ x1).size + (ByteArray.mk #[(32 : UInt8)]).size) : Int) ≤ IntKind.i64.max) ∧ ((↑ ((x0 ++ (ByteArray.mk #[(32 : UInt8)]) ++ x1 ++ (ByteArray.mk #[(32 : UInt8)])).size + x1.size) : Int) ≤ IntKind.i64.max) ∧ ((↑ ((x0 ++ (ByteArray.mk #[(32 : UInt8)]) ++ x1 ++ (ByteArray.mk #[(32 : UInt8)]) ++ x1).size + (ByteArray.mk #[(32 : UInt8)]).size) : Int) ≤ IntKind.i64.max) ∧ ((↑ ((x0 ++ (ByteArray.mk #[(32 : UInt8)]) ++ x1 ++ (ByteArray.mk #[(32 : UInt8)]) ++ x1 ++ (ByteArray.mk #[(32 : UInt8)])).size + x1.size) : Int) ≤ IntKind.i64.max) ∧ ((↑ ((x0 ++ (ByteArray.mk #[(32 : UInt8)]) ++ x1 ++ (ByteArray.mk #[(32 : UInt8)]) ++ x1 ++ (ByteArray.mk #[(32 : UInt8)]) ++ x1).size + (ByteArray.mk #[(32 : UInt8)]).size) : Int) ≤ IntKind.i64.max) ∧ ((↑ ((x0 ++ (ByteArray.mk #[(32 : UInt8)]) ++ x1 ++ (ByteArray.mk #[(32 : UInt8)]) ++ x1 ++ (ByteArray.mk #[(32 : UInt8)]) ++ x1 ++ (ByteArray.mk #[(32 : UInt8)])).size + x0.size) : Int) ≤ IntKind.i64.max) ∧ ((f17 k (x0 ++ (ByteArray.mk #[32]) ++ x1 ++ (ByteArray.mk #[32]) ++ x1 ++ (ByteArray.mk #[32]) ++ x1 ++ (ByteArray.mk #[32]) ++ x0)).isSome = true)
      · rw [if_pos q] at h
        refine ⟨(conjC q.1 (conjC q.2.1 (conjC q.2.2.1 (conjC q.2.2.2.1 (conjC q.2.2.2.2.1 (conjC q.2.2.2.2.2.1 (conjC q.2.2.2.2.2.2.1 (conjC q.2.2.2.2.2.2.2.1 (conjC (cc17 k (x0 ++ (ByteArray.mk #[32]) ++ x1 ++ (ByteArray.mk #[32]) ++ x1 ++ (ByteArray.mk #[32]) ++ x1 ++ (ByteArray.mk #[32]) ++ x0) q.2.2.2.2.2.2.2.2) conj0))))))))), ?_⟩
        exact ih.2.2.2 x2 x3 x4 x5 x6 ((v17 k (x0 ++ (ByteArray.mk #[32]) ++ x1 ++ (ByteArray.mk #[32]) ++ x1 ++ (ByteArray.mk #[32]) ++ x1 ++ (ByteArray.mk #[32]) ++ x0)).fst) x7 ((v17 k (x0 ++ (ByteArray.mk #[32]) ++ x1 ++ (ByteArray.mk #[32]) ++ x1 ++ (ByteArray.mk #[32]) ++ x1 ++ (ByteArray.mk #[32]) ++ x0)).snd) _ h
      · rw [if_neg q] at h; cases h
    · intro x0 x1 x2 x3 x4 x5 x6 x7 r h
      rw [f10_7] at h
      refine Ev.tree hm (R := Rt) (K := (K10 k)) (l := [3, 5, 6, 7]) (C := [(3, [.auto [7, 8] false]), (5, [.auto [7, 8, 9, 10, 11, 12] false]), (6, [.auto [7, 8, 9, 10, 11, 12, 13, 14] false]), (7, [.auto [9, 10, 11, 12, 13, 14, 15, 16] false])]) (E := [.auto [6] true]) (n := 1000) (T := .test ((x0.toList == x2.toList && x1 == x3)) (.test ((true && v18 k x6 x7 && x4 == x5)) (.need [(x0.toList == x2.toList && x1 == x3) = true, CC Tryd.prog 18 (args18 x6 x7) [] (res18 (v18 k x6 x7)) (bo18 (v18 k x6 x7)), (true && v18 k x6 x7 && x4 == x5) = true, CC Tryd.prog 13 (args13 ) [] (res13 (v13 k )) (bo13 (v13 k ))] (.leaf (res10 (true && v13 k)) (bo10 (true && v13 k)))) (.need [(x0.toList == x2.toList && x1 == x3) = true, CC Tryd.prog 18 (args18 x6 x7) [] (res18 (v18 k x6 x7)) (bo18 (v18 k x6 x7)), (true && v18 k x6 x7 && x4 == x5) = false] (.leaf (res10 false) (bo10 false)))) (.test ((false && x4 == x5)) (.need [(x0.toList == x2.toList && x1 == x3) = false, (false && x4 == x5) = true, CC Tryd.prog 13 (args13 ) [] (res13 (v13 k )) (bo13 (v13 k ))] (.leaf (res10 (true && v13 k)) (bo10 (true && v13 k)))) (.need [(x0.toList == x2.toList && x1 == x3) = false, (false && x4 == x5) = false] (.leaf (res10 false) (bo10 false))))) (by kernel_rfl) ?_
      refine ⟨fun c => ?_, fun c => ?_⟩
      · rw [cond_t c] at h
        refine ⟨fun c => ?_, fun c => ?_⟩
        · rw [cond_t c] at h
          by_cases q : ((x0.toList == x2.toList && x1 == x3) = true) ∧ ((f18 k x6 x7).isSome = true) ∧ ((true && v18 k x6 x7 && x4 == x5) = true) ∧ ((f13 k ).isSome = true)
          · rw [if_pos q] at h
            refine ⟨(conjC q.1 (conjC (cc18 k x6 x7 q.2.1) (conjC q.2.2.1 (conjC (cc13 k  q.2.2.2) conj0)))), ?_⟩
            cases h; exact ⟨rfl, rfl⟩
          · rw [if_neg q] at h; cases h
        · rw [cond_f c] at h
          by_cases q : ((x0.toList == x2.toList && x1 == x3) = true) ∧ ((f18 k x6 x7).isSome = true) ∧ ((true && v18 k x6 x7 && x4 == x5) = false)
          · rw [if_pos q] at h
            refine ⟨(conjC q.1 (conjC (cc18 k x6 x7 q.2.1) (conjC q.2.2 conj0))), ?_⟩
            cases h; exact ⟨rfl, rfl⟩
          · rw [if_neg q] at h; cases h
      · rw [cond_f c] at h
        refine ⟨fun c => ?_, fun c => ?_⟩
        · rw [cond_t c] at h
          by_cases q : ((x0.toList == x2.toList && x1 == x3) = false) ∧ ((false && x4 == x5) = true) ∧ ((f13 k ).isSome = true)
          · rw [if_pos q] at h
            refine ⟨(conjC q.1 (conjC q.2.1 (conjC (cc13 k  q.2.2) conj0))), ?_⟩
            cases h; exact ⟨rfl, rfl⟩
          · rw [if_neg q] at h; cases h
        · rw [cond_f c] at h
          by_cases q : ((x0.toList == x2.toList && x1 == x3) = false) ∧ ((false && x4 == x5) = false)
          · rw [if_pos q] at h
            refine ⟨(conjC q.1 (conjC q.2 conj0)), ?_⟩
            cases h; exact ⟨rfl, rfl⟩
          · rw [if_neg q] at h; cases h
theorem of10 (k : Nat) (n_ : Int) (m_ : Int) (c_ : Int) (r : R10) (h : f10 k n_ m_ c_ = some r) : CC Tryd.prog 10 (args10 n_ m_ c_) [] (res10 r) (bo10 r) := by
  refine CC.of (fn := Tryd.f10) (by kernel_rfl) (by kernel_rfl) (by kernel_rfl) (by kernel_rfl) ?_
  unfold f10 at h
  refine Ev.tree hm (R := Rt) (K := (K10 k)) (l := [3, 5, 6, 7]) (C := [(3, [.auto [7, 8] false]), (5, [.auto [7, 8, 9, 10, 11, 12] false]), (6, [.auto [7, 8, 9, 10, 11, 12, 13, 14] false]), (7, [.auto [9, 10, 11, 12, 13, 14, 15, 16] false])]) (E := [.auto [6] true]) (n := 1000) (T := .need [(300 : Int) ≠ (0 : Int), CC Tryd.prog 27 (args27 (bytesOf8 [c_]) (IntKind.i64.wrap (n_.tmod 300))) [] (res27 (v27 k (bytesOf8 [c_]) (IntKind.i64.wrap (n_.tmod 300)))) (bo27 (v27 k (bytesOf8 [c_]) (IntKind.i64.wrap (n_.tmod 300))))] (.need [(300 : Int) ≠ (0 : Int), CC Tryd.prog 27 (args27 (ByteArray.mk #[120]) (IntKind.i64.wrap (m_.tmod 300))) [] (res27 (v27 k (ByteArray.mk #[120]) (IntKind.i64.wrap (m_.tmod 300)))) (bo27 (v27 k (ByteArray.mk #[120]) (IntKind.i64.wrap (m_.tmod 300))))] (.cut 3 (placeAt Tryd.f10 3) (st10_3 ((v27 k (bytesOf8 [c_]) (IntKind.i64.wrap (n_.tmod 300)))) ((v27 k (ByteArray.mk #[120]) (IntKind.i64.wrap (m_.tmod 300)))))))) (by kernel_rfl) ?_
  by_cases q : ((300 : Int) ≠ (0 : Int)) ∧ ((f27 k (bytesOf8 [c_]) (IntKind.i64.wrap (n_.tmod 300))).isSome = true)
  · rw [if_pos q] at h
    refine ⟨(conjC q.1 (conjC (cc27 k (bytesOf8 [c_]) (IntKind.i64.wrap (n_.tmod 300)) q.2) conj0)), ?_⟩
    by_cases q : ((300 : Int) ≠ (0 : Int)) ∧ ((f27 k (ByteArray.mk #[120]) (IntKind.i64.wrap (m_.tmod 300))).isSome = true)
    · rw [if_pos q] at h
      refine ⟨(conjC q.1 (conjC (cc27 k (ByteArray.mk #[120]) (IntKind.i64.wrap (m_.tmod 300)) q.2) conj0)), ?_⟩
      exact (ev10 k k).1 ((v27 k (bytesOf8 [c_]) (IntKind.i64.wrap (n_.tmod 300)))) ((v27 k (ByteArray.mk #[120]) (IntKind.i64.wrap (m_.tmod 300)))) _ h
    · rw [if_neg q] at h; cases h
  · rw [if_neg q] at h; cases h
theorem cc10 (k : Nat) (n_ : Int) (m_ : Int) (c_ : Int) (h : (f10 k n_ m_ c_).isSome = true) : CC Tryd.prog 10 (args10 n_ m_ c_) [] (res10 (v10 k n_ m_ c_)) (bo10 (v10 k n_ m_ c_)) := by
  cases e : f10 k n_ m_ c_ with
  | none => rw [e] at h; cases h
  | some r => rw [show v10 k n_ m_ c_ = r by simp [v10, e]]; exact of10 k n_ m_ c_ r e

end
end Go.AM
namespace Go.AM
open Go Go.Proofs Go.Lib

theorem f10_7s (k j : Nat) (hk : 4000000 ≤ k) (h13 : f13 k = some true) (s : ByteArray) (e g : Int) (l : List ByteArray) (hl : l.length ≤ 1000000) : f10_7 k (j + 1) s e s e g g l l = some true := by
  have v13e : v13 k = true := by unfold v13; rw [h13]; rfl
  have e18 := f18_s k l hl (by omega)
  have g18 : v18 k l l = true := by unfold v18; rw [e18]; rfl
  rw [f10_7]
  rw [e18, g18, h13, v13e]
  simp
theorem sp1 : (ByteArray.mk #[(32 : UInt8)]).size = 1 := rfl
theorem need8 (a b : ByteArray) (ha : a.size ≤ 1000) (hb : b.size ≤ 1000) : ((a.size + (ByteArray.mk #[(32 : UInt8)]).size : Nat) : Int) ≤ IntKind.i64.max := by
  rw [sp1, hmx]; omega
theorem f10_k (k : Nat) (hk : 4000000 ≤ k) (h13 : f13 k = some true) (n m c : Int) (hn : 0 ≤ n ∧ n ≤ 65535) (hm : 0 ≤ m ∧ m ≤ 65535) : f10 k n m c = some true := by
  have tm : ∀ x : Int, 0 ≤ x ∧ x ≤ 65535 → 0 ≤ x.tmod 300 ∧ x.tmod 300 < 300 := fun x h => by
    rw [Int.tmod_eq_emod_of_nonneg h.1]; omega
  have hw : ∀ x : Int, 0 ≤ x ∧ x ≤ 65535 → IntKind.i64.wrap (x.tmod 300) = x.tmod 300 := fun x h => by
    have := tm x h; rw [wrap_id (by omega) (by omega)]
  have hsz : (bytesOf8 [c]).size = 1 := rfl
  have e27 : ∀ (s : ByteArray) (x : Int), s.size = 1 → 0 ≤ x ∧ x < 300 → f27 k s x = some (mkL (repeatL s.data.toList x.toNat)) ∧ (mkL (repeatL s.data.toList x.toNat)).size ≤ 300 := fun s x hs hx => by
    constructor
    · unfold f27
      rw [show Nat.ble s.size 1000 = true from Nat.ble_eq_true_of_le (by omega), decide_eq_true hx.1, decide_eq_true (show x ≤ 1000 by omega)]; rfl
    · rw [mkL_size, repeatL_length, size_len, hs]; omega
  unfold f10
  rw [hw n hn, hw m hm]
  obtain ⟨a1, a2⟩ := e27 (bytesOf8 [c]) (n.tmod 300) hsz (tm n hn)
  obtain ⟨b1, b2⟩ := e27 (ByteArray.mk #[120]) (m.tmod 300) rfl (tm m hm)
  have va : v27 k (bytesOf8 [c]) (n.tmod 300) = mkL (repeatL (bytesOf8 [c]).data.toList (n.tmod 300).toNat) := by unfold v27; rw [a1]; rfl
  have vb : v27 k (ByteArray.mk #[120]) (m.tmod 300) = mkL (repeatL (ByteArray.mk #[120]).data.toList (m.tmod 300).toNat) := by unfold v27; rw [b1]; rfl
  rw [a1, b1, va, vb, if_pos ⟨by decide, rfl⟩, if_pos ⟨by decide, rfl⟩]
  generalize mkL (repeatL (bytesOf8 [c]).data.toList (n.tmod 300).toNat) = a at a2
  generalize mkL (repeatL (ByteArray.mk #[120]).data.toList (m.tmod 300).toNat) = b at b2
  obtain ⟨j, hj⟩ : ∃ j, k = j + 4 := ⟨k - 4, by omega⟩
  have main : f10_3 k (j + 4) a b = some true := by
    rw [f10_3]
    have h14 := f14_s k [a, b, b, b, a] (by simp) (by omega)
    have h15 := f15_s k [a, b, b, b, a] (by simp) (by omega)
    have v14e : v14 k [a, b, b, b, a] = fin [a, b, b, b, a] (chkAll [a, b, b, b, a]) := by unfold v14; rw [h14]; rfl
    have v15e : v15 k [a, b, b, b, a] = fin [a, b, b, b, a] (chkAll [a, b, b, b, a]) := by unfold v15; rw [h15]; rfl
    rw [h14, h15, v14e, v15e, if_some, if_some]
    generalize fin [a, b, b, b, a] (chkAll [a, b, b, b, a]) = q
    have nd : ∀ x y : ByteArray, x.size ≤ 100000 → y.size ≤ 100000 → ((x.size + y.size : Nat) : Int) ≤ IntKind.i64.max := fun x y h1 h2 => by rw [hmx]; omega
    have e16 : f16 k (a ++ ByteArray.mk #[32] ++ b ++ ByteArray.mk #[32] ++ b ++ ByteArray.mk #[32] ++ b ++ ByteArray.mk #[32] ++ a) = some (splT (a ++ ByteArray.mk #[32] ++ b ++ ByteArray.mk #[32] ++ b ++ ByteArray.mk #[32] ++ b ++ ByteArray.mk #[32] ++ a).data.toList) := by
      have := f16_s k (by omega) (a ++ ByteArray.mk #[32] ++ b ++ ByteArray.mk #[32] ++ b ++ ByteArray.mk #[32] ++ b ++ ByteArray.mk #[32] ++ a).data.toList
      rw [of_list] at this; exact this
    have e17 : f17 k (a ++ ByteArray.mk #[32] ++ b ++ ByteArray.mk #[32] ++ b ++ ByteArray.mk #[32] ++ b ++ ByteArray.mk #[32] ++ a) = some (splT (a ++ ByteArray.mk #[32] ++ b ++ ByteArray.mk #[32] ++ b ++ ByteArray.mk #[32] ++ b ++ ByteArray.mk #[32] ++ a).data.toList) := by
      have := f17_s k hk (a ++ ByteArray.mk #[32] ++ b ++ ByteArray.mk #[32] ++ b ++ ByteArray.mk #[32] ++ b ++ ByteArray.mk #[32] ++ a).data.toList
      rw [of_list] at this; exact this
    have g16 : v16 k (a ++ ByteArray.mk #[32] ++ b ++ ByteArray.mk #[32] ++ b ++ ByteArray.mk #[32] ++ b ++ ByteArray.mk #[32] ++ a) = splT (a ++ ByteArray.mk #[32] ++ b ++ ByteArray.mk #[32] ++ b ++ ByteArray.mk #[32] ++ b ++ ByteArray.mk #[32] ++ a).data.toList := by unfold v16; rw [e16]; rfl
    have g17 : v17 k (a ++ ByteArray.mk #[32] ++ b ++ ByteArray.mk #[32] ++ b ++ ByteArray.mk #[32] ++ b ++ ByteArray.mk #[32] ++ a) = splT (a ++ ByteArray.mk #[32] ++ b ++ ByteArray.mk #[32] ++ b ++ ByteArray.mk #[32] ++ b ++ ByteArray.mk #[32] ++ a).data.toList := by unfold v17; rw [e17]; rfl
    have bounds : ∀ {X : Prop}, (X → X) := fun h => h
    rw [f10_5]
    rw [e16, g16]
    have hl := splT_len (a ++ ByteArray.mk #[32] ++ b ++ ByteArray.mk #[32] ++ b ++ ByteArray.mk #[32] ++ b ++ ByteArray.mk #[32] ++ a).data.toList
    rw [if_pos ⟨nd _ _ (by omega) (by decide), nd _ _ (by simp only [app_size, sp1]; omega) (by omega), nd _ _ (by simp only [app_size, sp1]; omega) (by decide), nd _ _ (by simp only [app_size, sp1]; omega) (by omega), nd _ _ (by simp only [app_size, sp1]; omega) (by decide), nd _ _ (by simp only [app_size, sp1]; omega) (by omega), nd _ _ (by simp only [app_size, sp1]; omega) (by decide), nd _ _ (by simp only [app_size, sp1]; omega) (by omega), rfl⟩]
    rw [f10_6]
    rw [e17, g17]
    rw [if_pos ⟨nd _ _ (by omega) (by decide), nd _ _ (by simp only [app_size, sp1]; omega) (by omega), nd _ _ (by simp only [app_size, sp1]; omega) (by decide), nd _ _ (by simp only [app_size, sp1]; omega) (by omega), nd _ _ (by simp only [app_size, sp1]; omega) (by decide), nd _ _ (by simp only [app_size, sp1]; omega) (by omega), nd _ _ (by simp only [app_size, sp1]; omega) (by decide), nd _ _ (by simp only [app_size, sp1]; omega) (by omega), rfl⟩]
    exact f10_7s k j hk h13 _ _ _ _ (by omega)
  rw [← hj] at main
  exact main
theorem f10_j (n m c : Int) (hn : 0 ≤ n ∧ n ≤ 65535) (hm : 0 ≤ m ∧ m ≤ 65535) : f10 KS n m c = some true := f10_k KS (Nat.le_refl 4000000) f13_S n m c hn hm
end Go.AM
