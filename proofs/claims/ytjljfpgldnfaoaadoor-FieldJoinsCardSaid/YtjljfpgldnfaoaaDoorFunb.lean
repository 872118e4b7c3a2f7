/- Contracts of the functions that the law reaches, and the plain law. -/
import Derived.Test.YtjljfpgldnfaoaaDoorFuna
namespace Go.AM
open Go Go.Proofs
set_option linter.unusedVariables false
noncomputable section
/-! ### function 19: papermill/field.Lines -/
def K19 (k : Nat) : Calld := ⟨fun g => match g with
  | 16 => some [false]
  | 24 => some [false, false]
  | 36 => some [false, false]
  | _ => none, fun g xs _ => match g with
  | 16 => match xs with
    | [.r (.v (.string line_))] => some (res16 (v16 k line_), bo16 (v16 k line_))
    | _ => none
  | 24 => match xs with
    | [.r (.v (.string s_)), .r (.v (.string suffix_))] => some (res24 (v24 k s_ suffix_), bo24 (v24 k s_ suffix_))
    | _ => none
  | 36 => match xs with
    | [.r (.v (.string s_)), .r (.v (.string sep_))] => some (res36 (v36 k s_ sep_), bo36 (v36 k s_ sep_))
    | _ => none
  | _ => none⟩
abbrev R19 : Type := Int × List (RTy.str.list).T
def res19 (r : R19) : AV := .tup [.own 0 0, .r (.v (.int .i64 r.1))]
def bo19 (r : R19) : List (Nat × Blk) := [(0, .row 22 RTy.str.list r.2)]
def st19_4 (x0 : ByteArray) (x1 : List (RTy.str.list).T) : St := ⟨mkS 46 [(0, .r (.v (.string x0))), (4, .own 1000000 0)], [(1000000, 0, .row 22 RTy.str.list x1)]⟩
def f19_4 (k : Nat) : Nat → ByteArray → List (RTy.str.list).T → Option R19
  | 0, _, _ => none
  | j + 1, x0, x1 =>
    bif (!x0.toList == (ByteArray.mk #[]).toList) then
      if ((f36 k x0 (ByteArray.mk #[10])).isSome = true) then
        if (((v36 k x0 (ByteArray.mk #[(10 : UInt8)])).fst.toList == (ByteArray.mk #[]).toList) = false → (0 : Int) ≤ (0 : Int)) ∧ (((v36 k x0 (ByteArray.mk #[(10 : UInt8)])).fst.toList == (ByteArray.mk #[]).toList) = false → (0 : Int) < (↑ (v36 k x0 (ByteArray.mk #[(10 : UInt8)])).fst.size : Int)) then
          bif ((v36 k x0 (ByteArray.mk #[(10 : UInt8)])).fst.toList == (ByteArray.mk #[]).toList || bAt (v36 k x0 (ByteArray.mk #[(10 : UInt8)])).fst (0 : Int) == (35 : Int)) then
            f19_4 k j ((v36 k x0 (ByteArray.mk #[10])).snd.fst) x1
          else
            if ((f16 k (v36 k x0 (ByteArray.mk #[10])).fst).isSome = true) then
              bif ((v16 k (v36 k x0 (ByteArray.mk #[(10 : UInt8)])).fst).fst != (0 : Int)) then
                some (((v16 k (v36 k x0 (ByteArray.mk #[10])).fst).fst, []))
              else
                if ((x1.length + [(v16 k (v36 k x0 (ByteArray.mk #[(10 : UInt8)])).fst).snd].length) * (24 : Nat) ≤ (140737488355328 : Nat)) then
                  f19_4 k j ((v36 k x0 (ByteArray.mk #[10])).snd.fst) ((x1 ++ [(v16 k (v36 k x0 (ByteArray.mk #[10])).fst).snd]))
                else none
            else none
        else none
      else none
    else
      some ((0, x1))
def f19 (k : Nat) (text_ : ByteArray) : Option R19 :=
  bif (!text_.toList == (ByteArray.mk #[]).toList) then
    if ((!text_.toList == (ByteArray.mk #[]).toList) = true) ∧ ((f24 k text_ (ByteArray.mk #[10])).isSome = true) then
      bif (true && (!v24 k text_ (ByteArray.mk #[(10 : UInt8)]))) then
        some ((3, []))
      else
        f19_4 k k text_ ([])
    else none
  else
    if ((!text_.toList == (ByteArray.mk #[]).toList) = false) then
      f19_4 k k text_ ([])
    else none
def args19 (text_ : ByteArray) : List AV := [.r (.v (.string text_))]
def v19 (k : Nat) (text_ : ByteArray) : R19 := (f19 k text_).getD (0, [])
theorem ev19 (k : Nat) : ∀ j, (∀ (x0 : ByteArray) (x1 : List (RTy.str.list).T) (r : R19), f19_4 k j x0 x1 = some r → Ev Tryd.prog Tryd.f19 0 (placeAt Tryd.f19 4) (st19_4 x0 x1) (res19 r) (bo19 r))
  | 0 => by
    intros; rename_i h; simp [f19_4] at h
  | j + 1 => by
    have ih := ev19 k j
    · intro x0 x1 r h
      rw [f19_4] at h
      refine Ev.tree hm (R := Rt) (K := (K19 k)) (l := []) (C := [(4, [.row 4 22 RTy.str.list, .auto [0, 4] false])]) (E := [.row 2 22 RTy.str.list, .auto [2, 3] true]) (n := 1000) (T := .test ((!x0.toList == (ByteArray.mk #[]).toList)) (.need [CC Tryd.prog 36 (args36 x0 (ByteArray.mk #[10])) [] (res36 (v36 k x0 (ByteArray.mk #[10]))) (bo36 (v36 k x0 (ByteArray.mk #[10])))] (.need [((v36 k x0 (ByteArray.mk #[(10 : UInt8)])).fst.toList == (ByteArray.mk #[]).toList) = false → (0 : Int) ≤ (0 : Int), ((v36 k x0 (ByteArray.mk #[(10 : UInt8)])).fst.toList == (ByteArray.mk #[]).toList) = false → (0 : Int) < (↑ (v36 k x0 (ByteArray.mk #[(10 : UInt8)])).fst.size : Int)] (.test (((v36 k x0 (ByteArray.mk #[(10 : UInt8)])).fst.toList == (ByteArray.mk #[]).toList || bAt (v36 k x0 (ByteArray.mk #[(10 : UInt8)])).fst (0 : Int) == (35 : Int))) (.cut 4 (placeAt Tryd.f19 4) (st19_4 ((v36 k x0 (ByteArray.mk #[10])).snd.fst) x1)) (.need [CC Tryd.prog 16 (args16 (v36 k x0 (ByteArray.mk #[10])).fst) [] (res16 (v16 k (v36 k x0 (ByteArray.mk #[10])).fst)) (bo16 (v16 k (v36 k x0 (ByteArray.mk #[10])).fst))] (.test (((v16 k (v36 k x0 (ByteArray.mk #[(10 : UInt8)])).fst).fst != (0 : Int))) (.leaf (res19 (((v16 k (v36 k x0 (ByteArray.mk #[10])).fst).fst, []))) (bo19 (((v16 k (v36 k x0 (ByteArray.mk #[10])).fst).fst, [])))) (.need [(x1.length + [(v16 k (v36 k x0 (ByteArray.mk #[(10 : UInt8)])).fst).snd].length) * (24 : Nat) ≤ (140737488355328 : Nat)] (.cut 4 (placeAt Tryd.f19 4) (st19_4 ((v36 k x0 (ByteArray.mk #[10])).snd.fst) ((x1 ++ [(v16 k (v36 k x0 (ByteArray.mk #[10])).fst).snd])))))))))) (.leaf (res19 ((0, x1))) (bo19 ((0, x1))))) (by kernel_rfl) ?_
      refine ⟨fun c => ?_, fun c => ?_⟩
      · rw [cond_t c] at h
        by_cases q : ((f36 k x0 (ByteArray.mk #[10])).isSome = true)
        · rw [if_pos q] at h
          refine ⟨(conjC (cc36 k x0 (ByteArray.mk #[10]) q) conj0), ?_⟩
          by_cases q : (((v36 k x0 (ByteArray.mk #[(10 : UInt8)])).fst.toList == (ByteArray.mk #[]).toList) = false → (0 : Int) ≤ (0 : Int)) ∧ (((v36 k x0 (ByteArray.mk #[(10 : UInt8)])).fst.toList == (ByteArray.mk #[]).toList) = false → (0 : Int) < (↑ (v36 k x0 (ByteArray.mk #[(10 : UInt8)])).fst.size : Int))
          · rw [if_pos q] at h
            refine ⟨(conjC q.1 (conjC q.2 conj0)), ?_⟩
            refine ⟨fun c => ?_, fun c => ?_⟩
            · rw [cond_t c] at h
              exact ih ((v36 k x0 (ByteArray.mk #[10])).snd.fst) x1 _ h
            · rw [cond_f c] at h
              by_cases q : ((f16 k (v36 k x0 (ByteArray.mk #[10])).fst).isSome = true)
              · rw [if_pos q] at h
                refine ⟨(conjC (cc16 k (v36 k x0 (ByteArray.mk #[10])).fst q) conj0), ?_⟩
                refine ⟨fun c => ?_, fun c => ?_⟩
                · rw [cond_t c] at h
                  cases h; exact ⟨rfl, rfl⟩
                · rw [cond_f c] at h
                  by_cases q : ((x1.length + [(v16 k (v36 k x0 (ByteArray.mk #[(10 : UInt8)])).fst).snd].length) * (24 : Nat) ≤ (140737488355328 : Nat))
                  · rw [if_pos q] at h
                    refine ⟨(conjC q conj0), ?_⟩
                    exact ih ((v36 k x0 (ByteArray.mk #[10])).snd.fst) ((x1 ++ [(v16 k (v36 k x0 (ByteArray.mk #[10])).fst).snd])) _ h
                  · rw [if_neg q] at h; cases h
              · rw [if_neg q] at h; cases h
          · rw [if_neg q] at h; cases h
        · rw [if_neg q] at h; cases h
      · rw [cond_f c] at h
        cases h; exact ⟨rfl, rfl⟩
theorem of19 (k : Nat) (text_ : ByteArray) (r : R19) (h : f19 k text_ = some r) : CC Tryd.prog 19 (args19 text_) [] (res19 r) (bo19 r) := by
  refine CC.of (fn := Tryd.f19) (by kernel_rfl) (by kernel_rfl) (by kernel_rfl) (by kernel_rfl) ?_
  unfold f19 at h
  refine Ev.tree hm (R := Rt) (K := (K19 k)) (l := []) (C := [(4, [.row 4 22 RTy.str.list, .auto [0, 4] false])]) (E := [.row 2 22 RTy.str.list, .auto [2, 3] true]) (n := 1000) (T := .test ((!text_.toList == (ByteArray.mk #[]).toList)) (.need [(!text_.toList == (ByteArray.mk #[]).toList) = true, CC Tryd.prog 24 (args24 text_ (ByteArray.mk #[10])) [] (res24 (v24 k text_ (ByteArray.mk #[10]))) (bo24 (v24 k text_ (ByteArray.mk #[10])))] (.test ((true && (!v24 k text_ (ByteArray.mk #[(10 : UInt8)])))) (.leaf (res19 ((3, []))) (bo19 ((3, [])))) (.cut 4 (placeAt Tryd.f19 4) (st19_4 text_ ([]))))) (.need [(!text_.toList == (ByteArray.mk #[]).toList) = false] (.test (false) (.leaf (res19 ((3, []))) (bo19 ((3, [])))) (.cut 4 (placeAt Tryd.f19 4) (st19_4 text_ ([])))))) (by kernel_rfl) ?_
  refine ⟨fun c => ?_, fun c => ?_⟩
  · rw [cond_t c] at h
    by_cases q : ((!text_.toList == (ByteArray.mk #[]).toList) = true) ∧ ((f24 k text_ (ByteArray.mk #[10])).isSome = true)
    · rw [if_pos q] at h
      refine ⟨(conjC q.1 (conjC (cc24 k text_ (ByteArray.mk #[10]) q.2) conj0)), ?_⟩
      refine ⟨fun c => ?_, fun c => ?_⟩
      · rw [cond_t c] at h
        cases h; exact ⟨rfl, rfl⟩
      · rw [cond_f c] at h
        exact (ev19 k k) text_ ([]) _ h
    · rw [if_neg q] at h; cases h
  · rw [cond_f c] at h
    by_cases q : ((!text_.toList == (ByteArray.mk #[]).toList) = false)
    · rw [if_pos q] at h
      refine ⟨(conjC q conj0), ?_⟩
      refine ⟨fun c => ?_, fun c => ?_⟩
      · cases c
      exact (ev19 k k) text_ ([]) _ h
    · rw [if_neg q] at h; cases h
theorem cc19 (k : Nat) (text_ : ByteArray) (h : (f19 k text_).isSome = true) : CC Tryd.prog 19 (args19 text_) [] (res19 (v19 k text_)) (bo19 (v19 k text_)) := by
  cases e : f19 k text_ with
  | none => rw [e] at h; cases h
  | some r => rw [show v19 k text_ = r by simp [v19, e]]; exact of19 k text_ r e

end
end Go.AM
namespace Go.AM
open Go Go.Proofs
set_option linter.unusedVariables false
noncomputable section
/-! ### function 21: papermill/papermillref07.SameAll -/
def K21 (k : Nat) : Calld := ⟨fun g => match g with
  | 18 => some [false, false]
  | _ => none, fun g xs _ => match g with
  | 18 => match xs with
    | [.r (.ro t0_ q0), .r (.ro t1_ q1)] => (castL t0_ RTy.str q0).bind fun a_ => (castL t1_ RTy.str q1).bind fun b_ => some (res18 (v18 k a_ b_), bo18 (v18 k a_ b_))
    | _ => none
  | _ => none⟩
abbrev R21 : Type := Bool
def res21 (r : R21) : AV := .r (.v (.bool r))
def bo21 (r : R21) : List (Nat × Blk) := []
def st21_4 (x0 : List (RTy.str.list).T) (x1 : List (RTy.str.list).T) (x2 : Int) : St := ⟨mkS 27 [(0, .r (.ro RTy.str.list x0)), (1, .r (.ro RTy.str.list x1)), (5, .r (.v (.int .i64 x2)))], []⟩
def f21_4 (k : Nat) : Nat → List (RTy.str.list).T → List (RTy.str.list).T → Int → Option R21
  | 0, _, _, _ => none
  | j + 1, x0, x1, x2 =>
    bif (decide (x2 < (↑x0.length : Int))) then
      if ((0 : Int) ≤ x2) ∧ (x2 < (↑x0.length : Int)) ∧ ((0 : Int) ≤ x2) ∧ (x2 < (↑x1.length : Int)) ∧ ((f18 k (x0.getD x2.toNat RTy.str.list.dflt) (x1.getD x2.toNat RTy.str.list.dflt)).isSome = true) then
        bif (!v18 k (x0.getD x2.toNat RTy.str.list.dflt) (x1.getD x2.toNat RTy.str.list.dflt)) then
          some false
        else
          f21_4 k j x0 x1 ((IntKind.i64.wrap (x2 + 1)))
      else none
    else
      some true
def f21 (k : Nat) (a_ : List (RTy.list RTy.str).T) (b_ : List (RTy.list RTy.str).T) : Option R21 :=
  bif ((↑a_.length : Int) != (↑b_.length : Int)) then
    some false
  else
    f21_4 k k a_ b_ 0
def args21 (a_ : List (RTy.list RTy.str).T) (b_ : List (RTy.list RTy.str).T) : List AV := [.r (.ro (RTy.list RTy.str) a_), .r (.ro (RTy.list RTy.str) b_)]
def v21 (k : Nat) (a_ : List (RTy.list RTy.str).T) (b_ : List (RTy.list RTy.str).T) : R21 := (f21 k a_ b_).getD false
theorem ev21 (k : Nat) : ∀ j, (∀ (x0 : List (RTy.str.list).T) (x1 : List (RTy.str.list).T) (x2 : Int) (r : R21), f21_4 k j x0 x1 x2 = some r → Ev Tryd.prog Tryd.f21 0 (placeAt Tryd.f21 4) (st21_4 x0 x1 x2) (res21 r) (bo21 r))
  | 0 => by
    intros; rename_i h; simp [f21_4] at h
  | j + 1 => by
    have ih := ev21 k j
    · intro x0 x1 x2 r h
      rw [f21_4] at h
      refine Ev.tree hm (R := Rt) (K := (K21 k)) (l := []) (C := [(4, [.auto [0, 1, 5] false])]) (E := [.auto [4] true]) (n := 1000) (T := .test ((decide (x2 < (↑x0.length : Int)))) (.need [(0 : Int) ≤ x2, x2 < (↑x0.length : Int), (0 : Int) ≤ x2, x2 < (↑x1.length : Int), CC Tryd.prog 18 (args18 (x0.getD x2.toNat RTy.str.list.dflt) (x1.getD x2.toNat RTy.str.list.dflt)) [] (res18 (v18 k (x0.getD x2.toNat RTy.str.list.dflt) (x1.getD x2.toNat RTy.str.list.dflt))) (bo18 (v18 k (x0.getD x2.toNat RTy.str.list.dflt) (x1.getD x2.toNat RTy.str.list.dflt)))] (.test ((!v18 k (x0.getD x2.toNat RTy.str.list.dflt) (x1.getD x2.toNat RTy.str.list.dflt))) (.leaf (res21 false) (bo21 false)) (.cut 4 (placeAt Tryd.f21 4) (st21_4 x0 x1 ((IntKind.i64.wrap (x2 + 1))))))) (.leaf (res21 true) (bo21 true))) (by kernel_rfl) ?_
      refine ⟨fun c => ?_, fun c => ?_⟩
      · rw [cond_t c] at h
        by_cases q : ((0 : Int) ≤ x2) ∧ (x2 < (↑x0.length : Int)) ∧ ((0 : Int) ≤ x2) ∧ (x2 < (↑x1.length : Int)) ∧ ((f18 k (x0.getD x2.toNat RTy.str.list.dflt) (x1.getD x2.toNat RTy.str.list.dflt)).isSome = true)
        · rw [if_pos q] at h
          refine ⟨(conjC q.1 (conjC q.2.1 (conjC q.2.2.1 (conjC q.2.2.2.1 (conjC (cc18 k (x0.getD x2.toNat RTy.str.list.dflt) (x1.getD x2.toNat RTy.str.list.dflt) q.2.2.2.2) conj0))))), ?_⟩
          refine ⟨fun c => ?_, fun c => ?_⟩
          · rw [cond_t c] at h
            cases h; exact ⟨rfl, rfl⟩
          · rw [cond_f c] at h
            exact ih x0 x1 ((IntKind.i64.wrap (x2 + 1))) _ h
        · rw [if_neg q] at h; cases h
      · rw [cond_f c] at h
        cases h; exact ⟨rfl, rfl⟩
theorem of21 (k : Nat) (a_ : List (RTy.list RTy.str).T) (b_ : List (RTy.list RTy.str).T) (r : R21) (h : f21 k a_ b_ = some r) : CC Tryd.prog 21 (args21 a_ b_) [] (res21 r) (bo21 r) := by
  refine CC.of (fn := Tryd.f21) (by kernel_rfl) (by kernel_rfl) (by kernel_rfl) (by kernel_rfl) ?_
  unfold f21 at h
  refine Ev.tree hm (R := Rt) (K := (K21 k)) (l := []) (C := [(4, [.auto [0, 1, 5] false])]) (E := [.auto [4] true]) (n := 1000) (T := .test (((↑a_.length : Int) != (↑b_.length : Int))) (.leaf (res21 false) (bo21 false)) (.cut 4 (placeAt Tryd.f21 4) (st21_4 a_ b_ 0))) (by kernel_rfl) ?_
  refine ⟨fun c => ?_, fun c => ?_⟩
  · rw [cond_t c] at h
    cases h; exact ⟨rfl, rfl⟩
  · rw [cond_f c] at h
    exact (ev21 k k) a_ b_ 0 _ h
theorem cc21 (k : Nat) (a_ : List (RTy.list RTy.str).T) (b_ : List (RTy.list RTy.str).T) (h : (f21 k a_ b_).isSome = true) : CC Tryd.prog 21 (args21 a_ b_) [] (res21 (v21 k a_ b_)) (bo21 (v21 k a_ b_)) := by
  cases e : f21 k a_ b_ with
  | none => rw [e] at h; cases h
  | some r => rw [show v21 k a_ b_ = r by simp [v21, e]]; exact of21 k a_ b_ r e

end
end Go.AM
namespace Go.AM
open Go Go.Proofs
set_option linter.unusedVariables false
noncomputable section
/-! ### function 52: internal/stringslite.CutPrefix -/
def K52 (k : Nat) : Calld := ⟨fun g => match g with
  | 40 => some [false, false]
  | _ => none, fun g xs _ => match g with
  | 40 => match xs with
    | [.r (.v (.string s_)), .r (.v (.string prefix_))] => some (res40 (v40 k s_ prefix_), bo40 (v40 k s_ prefix_))
    | _ => none
  | _ => none⟩
abbrev R52 : Type := ByteArray × Bool
def res52 (r : R52) : AV := .tup [.r (.v (.string r.1)), .r (.v (.bool r.2))]
def bo52 (r : R52) : List (Nat × Blk) := []
def f52 (k : Nat) (s_ : ByteArray) (prefix_ : ByteArray) : Option R52 :=
  if ((f40 k s_ prefix_).isSome = true) then
    bif (!v40 k s_ prefix_) then
      some ((s_, false))
    else
      if ((0 : Int) ≤ (↑prefix_.size : Int)) ∧ ((↑prefix_.size : Int) ≤ (↑s_.size : Int)) ∧ ((↑s_.size : Int) ≤ (↑s_.size : Int)) then
        some ((s_.extract (↑prefix_.size : Int).toNat (↑s_.size : Int).toNat, true))
      else none
  else none
def args52 (s_ : ByteArray) (prefix_ : ByteArray) : List AV := [.r (.v (.string s_)), .r (.v (.string prefix_))]
def v52 (k : Nat) (s_ : ByteArray) (prefix_ : ByteArray) : R52 := (f52 k s_ prefix_).getD (ByteArray.empty, false)
theorem of52 (k : Nat) (s_ : ByteArray) (prefix_ : ByteArray) (r : R52) (h : f52 k s_ prefix_ = some r) : CC Tryd.prog 52 (args52 s_ prefix_) [] (res52 r) (bo52 r) := by
  refine CC.of (fn := Tryd.f52) (by kernel_rfl) (by kernel_rfl) (by kernel_rfl) (by kernel_rfl) ?_
  unfold f52 at h
  refine Ev.tree hm (R := Rt) (K := (K52 k)) (l := []) (C := []) (E := [.auto [4, 5] true]) (n := 1000) (T := .need [CC Tryd.prog 40 (args40 s_ prefix_) [] (res40 (v40 k s_ prefix_)) (bo40 (v40 k s_ prefix_))] (.test ((!v40 k s_ prefix_)) (.leaf (res52 ((s_, false))) (bo52 ((s_, false)))) (.need [(0 : Int) ≤ (↑prefix_.size : Int), (↑prefix_.size : Int) ≤ (↑s_.size : Int), (↑s_.size : Int) ≤ (↑s_.size : Int)] (.leaf (res52 ((s_.extract (↑prefix_.size : Int).toNat (↑s_.size : Int).toNat, true))) (bo52 ((s_.extract (↑prefix_.size : Int).toNat (↑s_.size : Int).toNat, true))))))) (by kernel_rfl) ?_
  by_cases q : ((f40 k s_ prefix_).isSome = true)
  · rw [if_pos q] at h
    refine ⟨(conjC (cc40 k s_ prefix_ q) conj0), ?_⟩
    refine ⟨fun c => ?_, fun c => ?_⟩
    · rw [cond_t c] at h
      cases h; exact ⟨rfl, rfl⟩
    · rw [cond_f c] at h
      by_cases q : ((0 : Int) ≤ (↑prefix_.size : Int)) ∧ ((↑prefix_.size : Int) ≤ (↑s_.size : Int)) ∧ ((↑s_.size : Int) ≤ (↑s_.size : Int))
      · rw [if_pos q] at h
        refine ⟨(conjC q.1 (conjC q.2.1 (conjC q.2.2 conj0))), ?_⟩
        cases h; exact ⟨rfl, rfl⟩
      · rw [if_neg q] at h; cases h
  · rw [if_neg q] at h; cases h
theorem cc52 (k : Nat) (s_ : ByteArray) (prefix_ : ByteArray) (h : (f52 k s_ prefix_).isSome = true) : CC Tryd.prog 52 (args52 s_ prefix_) [] (res52 (v52 k s_ prefix_)) (bo52 (v52 k s_ prefix_)) := by
  cases e : f52 k s_ prefix_ with
  | none => rw [e] at h; cases h
  | some r => rw [show v52 k s_ prefix_ = r by simp [v52, e]]; exact of52 k s_ prefix_ r e

end
end Go.AM
namespace Go.AM
open Go Go.Proofs
set_option linter.unusedVariables false
noncomputable section
/-! ### function 37: strings.CutPrefix -/
def K37 (k : Nat) : Calld := ⟨fun g => match g with
  | 52 => some [false, false]
  | _ => none, fun g xs _ => match g with
  | 52 => match xs with
    | [.r (.v (.string s_)), .r (.v (.string prefix_))] => some (res52 (v52 k s_ prefix_), bo52 (v52 k s_ prefix_))
    | _ => none
  | _ => none⟩
abbrev R37 : Type := ByteArray × Bool
def res37 (r : R37) : AV := .tup [.r (.v (.string r.1)), .r (.v (.bool r.2))]
def bo37 (r : R37) : List (Nat × Blk) := []
def f37 (k : Nat) (s_ : ByteArray) (prefix_ : ByteArray) : Option R37 :=
  if ((f52 k s_ prefix_).isSome = true) then
    some (((v52 k s_ prefix_).fst, (v52 k s_ prefix_).snd))
  else none
def args37 (s_ : ByteArray) (prefix_ : ByteArray) : List AV := [.r (.v (.string s_)), .r (.v (.string prefix_))]
def v37 (k : Nat) (s_ : ByteArray) (prefix_ : ByteArray) : R37 := (f37 k s_ prefix_).getD (ByteArray.empty, false)
theorem of37 (k : Nat) (s_ : ByteArray) (prefix_ : ByteArray) (r : R37) (h : f37 k s_ prefix_ = some r) : CC Tryd.prog 37 (args37 s_ prefix_) [] (res37 r) (bo37 r) := by
  refine CC.of (fn := Tryd.f37) (by kernel_rfl) (by kernel_rfl) (by kernel_rfl) (by kernel_rfl) ?_
  unfold f37 at h
  refine Ev.tree hm (R := Rt) (K := (K37 k)) (l := []) (C := []) (E := [.auto [4, 5] true]) (n := 1000) (T := .need [CC Tryd.prog 52 (args52 s_ prefix_) [] (res52 (v52 k s_ prefix_)) (bo52 (v52 k s_ prefix_))] (.leaf (res37 (((v52 k s_ prefix_).fst, (v52 k s_ prefix_).snd))) (bo37 (((v52 k s_ prefix_).fst, (v52 k s_ prefix_).snd))))) (by kernel_rfl) ?_
  by_cases q : ((f52 k s_ prefix_).isSome = true)
  · rw [if_pos q] at h
    refine ⟨(conjC (cc52 k s_ prefix_ q) conj0), ?_⟩
    cases h; exact ⟨rfl, rfl⟩
  · rw [if_neg q] at h; cases h
theorem cc37 (k : Nat) (s_ : ByteArray) (prefix_ : ByteArray) (h : (f37 k s_ prefix_).isSome = true) : CC Tryd.prog 37 (args37 s_ prefix_) [] (res37 (v37 k s_ prefix_)) (bo37 (v37 k s_ prefix_)) := by
  cases e : f37 k s_ prefix_ with
  | none => rw [e] at h; cases h
  | some r => rw [show v37 k s_ prefix_ = r by simp [v37, e]]; exact of37 k s_ prefix_ r e

end
end Go.AM
namespace Go.AM
open Go Go.Proofs
set_option linter.unusedVariables false
noncomputable section
/-! ### function 22: papermill/field.Number -/
def K22 (k : Nat) : Calld := ⟨fun g => match g with
  | 37 => some [false, false]
  | _ => none, fun g xs _ => match g with
  | 37 => match xs with
    | [.r (.v (.string s_)), .r (.v (.string prefix_))] => some (res37 (v37 k s_ prefix_), bo37 (v37 k s_ prefix_))
    | _ => none
  | _ => none⟩
abbrev R22 : Type := Int × Int
def res22 (r : R22) : AV := .tup [.r (.v (.int .i64 r.1)), .r (.v (.int .i64 r.2))]
def bo22 (r : R22) : List (Nat × Blk) := []
def st22_6 (x0 : ByteArray) (x1 : Bool) (x2 : Int) (x3 : Bool) (x4 : Int) (x5 : Int) : St := ⟨mkS 54 [(4, .r (.v (.string x0))), (5, .r (.v (.bool x1))), (6, .r (.v (.int .i64 x2))), (7, .r (.v (.bool x3))), (27, .r (.v (.int .i64 x4))), (28, .r (.v (.int .i64 x5)))], []⟩
def f22_6 (k : Nat) : Nat → ByteArray → Bool → Int → Bool → Int → Int → Option R22
  | 0, _, _, _, _, _, _ => none
  | j + 1, x0, x1, x2, x3, x4, x5 =>
    bif (decide (x5 < x4)) then
      if ((0 : Int) ≤ x5) ∧ (x5 < (↑x0.size : Int)) then
        bif (decide (bAt x0 x5 < (48 : Int)) || decide (bAt x0 x5 > (57 : Int))) then
          some ((0, 3))
        else
          bif (decide (IntKind.i64.wrap (IntKind.i64.wrap ((10 : Int) * x2) + IntKind.i64.wrap (IntKind.u8.wrap (bAt x0 x5 - (48 : Int)))) > (1000000000000 : Int))) then
            f22_6 k j x0 x1 0 true x4 ((IntKind.i64.wrap (x5 + 1)))
          else
            f22_6 k j x0 x1 ((IntKind.i64.wrap (IntKind.i64.wrap (10 * x2) + IntKind.i64.wrap (IntKind.u8.wrap (bAt x0 x5 - 48))))) x3 x4 ((IntKind.i64.wrap (x5 + 1)))
      else none
    else
      bif x3 then
        some ((0, 1))
      else
        bif x1 then
          some ((IntKind.i64.wrap (0 - x2), 0))
        else
          some ((x2, 0))
def f22 (k : Nat) (s_ : ByteArray) : Option R22 :=
  if ((f37 k s_ (ByteArray.mk #[45])).isSome = true) then
    if (((v37 k s_ (ByteArray.mk #[(45 : UInt8)])).fst.toList == (ByteArray.mk #[]).toList) = false → (0 : Int) ≤ (0 : Int)) ∧ (((v37 k s_ (ByteArray.mk #[(45 : UInt8)])).fst.toList == (ByteArray.mk #[]).toList) = false → (0 : Int) < (↑ (v37 k s_ (ByteArray.mk #[(45 : UInt8)])).fst.size : Int)) then
      bif ((v37 k s_ (ByteArray.mk #[(45 : UInt8)])).fst.toList == (ByteArray.mk #[]).toList || bAt (v37 k s_ (ByteArray.mk #[(45 : UInt8)])).fst (0 : Int) == (48 : Int) && !s_.toList == (ByteArray.mk #[(48 : UInt8)]).toList) then
        some ((0, 3))
      else
        f22_6 k k ((v37 k s_ (ByteArray.mk #[45])).fst) ((v37 k s_ (ByteArray.mk #[45])).snd) 0 false ((↑ (v37 k s_ (ByteArray.mk #[45])).fst.size : Int)) 0
    else none
  else none
def args22 (s_ : ByteArray) : List AV := [.r (.v (.string s_))]
def v22 (k : Nat) (s_ : ByteArray) : R22 := (f22 k s_).getD (0, 0)
theorem ev22 (k : Nat) : ∀ j, (∀ (x0 : ByteArray) (x1 : Bool) (x2 : Int) (x3 : Bool) (x4 : Int) (x5 : Int) (r : R22), f22_6 k j x0 x1 x2 x3 x4 x5 = some r → Ev Tryd.prog Tryd.f22 0 (placeAt Tryd.f22 6) (st22_6 x0 x1 x2 x3 x4 x5) (res22 r) (bo22 r))
  | 0 => by
    intros; rename_i h; simp [f22_6] at h
  | j + 1 => by
    have ih := ev22 k j
    · intro x0 x1 x2 x3 x4 x5 r h
      rw [f22_6] at h
      refine Ev.tree hm (R := Rt) (K := (K22 k)) (l := []) (C := [(6, [.auto [4, 5, 6, 7, 27, 28] false])]) (E := [.auto [2, 3] true]) (n := 1000) (T := .test ((decide (x5 < x4))) (.need [(0 : Int) ≤ x5, x5 < (↑x0.size : Int)] (.test ((decide (bAt x0 x5 < (48 : Int)) || decide (bAt x0 x5 > (57 : Int)))) (.leaf (res22 ((0, 3))) (bo22 ((0, 3)))) (.test ((decide (IntKind.i64.wrap (IntKind.i64.wrap ((10 : Int) * x2) + IntKind.i64.wrap (IntKind.u8.wrap (bAt x0 x5 - (48 : Int)))) > (1000000000000 : Int)))) (.cut 6 (placeAt Tryd.f22 6) (st22_6 x0 x1 0 true x4 ((IntKind.i64.wrap (x5 + 1))))) (.cut 6 (placeAt Tryd.f22 6) (st22_6 x0 x1 ((IntKind.i64.wrap (IntKind.i64.wrap (10 * x2) + IntKind.i64.wrap (IntKind.u8.wrap (bAt x0 x5 - 48))))) x3 x4 ((IntKind.i64.wrap (x5 + 1)))))))) (.test (x3) (.leaf (res22 ((0, 1))) (bo22 ((0, 1)))) (.test (x1) (.leaf (res22 ((IntKind.i64.wrap (0 - x2), 0))) (bo22 ((IntKind.i64.wrap (0 - x2), 0)))) (.leaf (res22 ((x2, 0))) (bo22 ((x2, 0))))))) (by kernel_rfl) ?_
      refine ⟨fun c => ?_, fun c => ?_⟩
      · rw [cond_t c] at h
        by_cases q : ((0 : Int) ≤ x5) ∧ (x5 < (↑x0.size : Int))
        · rw [if_pos q] at h
          refine ⟨(conjC q.1 (conjC q.2 conj0)), ?_⟩
          refine ⟨fun c => ?_, fun c => ?_⟩
          · rw [cond_t c] at h
            cases h; exact ⟨rfl, rfl⟩
          · rw [cond_f c] at h
            refine ⟨fun c => ?_, fun c => ?_⟩
            · rw [cond_t c] at h
              exact ih x0 x1 0 true x4 ((IntKind.i64.wrap (x5 + 1))) _ h
            · rw [cond_f c] at h
              exact ih x0 x1 ((IntKind.i64.wrap (IntKind.i64.wrap (10 * x2) + IntKind.i64.wrap (IntKind.u8.wrap (bAt x0 x5 - 48))))) x3 x4 ((IntKind.i64.wrap (x5 + 1))) _ h
        · rw [if_neg q] at h; cases h
      · rw [cond_f c] at h
        refine ⟨fun c => ?_, fun c => ?_⟩
        · rw [cond_t c] at h
          cases h; exact ⟨rfl, rfl⟩
        · rw [cond_f c] at h
          refine ⟨fun c => ?_, fun c => ?_⟩
          · rw [cond_t c] at h
            cases h; exact ⟨rfl, rfl⟩
          · rw [cond_f c] at h
            cases h; exact ⟨rfl, rfl⟩
theorem of22 (k : Nat) (s_ : ByteArray) (r : R22) (h : f22 k s_ = some r) : CC Tryd.prog 22 (args22 s_) [] (res22 r) (bo22 r) := by
  refine CC.of (fn := Tryd.f22) (by kernel_rfl) (by kernel_rfl) (by kernel_rfl) (by kernel_rfl) ?_
  unfold f22 at h
  refine Ev.tree hm (R := Rt) (K := (K22 k)) (l := []) (C := [(6, [.auto [4, 5, 6, 7, 27, 28] false])]) (E := [.auto [2, 3] true]) (n := 1000) (T := .need [CC Tryd.prog 37 (args37 s_ (ByteArray.mk #[45])) [] (res37 (v37 k s_ (ByteArray.mk #[45]))) (bo37 (v37 k s_ (ByteArray.mk #[45])))] (.need [((v37 k s_ (ByteArray.mk #[(45 : UInt8)])).fst.toList == (ByteArray.mk #[]).toList) = false → (0 : Int) ≤ (0 : Int), ((v37 k s_ (ByteArray.mk #[(45 : UInt8)])).fst.toList == (ByteArray.mk #[]).toList) = false → (0 : Int) < (↑ (v37 k s_ (ByteArray.mk #[(45 : UInt8)])).fst.size : Int)] (.test (((v37 k s_ (ByteArray.mk #[(45 : UInt8)])).fst.toList == (ByteArray.mk #[]).toList || bAt (v37 k s_ (ByteArray.mk #[(45 : UInt8)])).fst (0 : Int) == (48 : Int) && !s_.toList == (ByteArray.mk #[(48 : UInt8)]).toList)) (.leaf (res22 ((0, 3))) (bo22 ((0, 3)))) (.cut 6 (placeAt Tryd.f22 6) (st22_6 ((v37 k s_ (ByteArray.mk #[45])).fst) ((v37 k s_ (ByteArray.mk #[45])).snd) 0 false ((↑ (v37 k s_ (ByteArray.mk #[45])).fst.size : Int)) 0))))) (by kernel_rfl) ?_
  by_cases q : ((f37 k s_ (ByteArray.mk #[45])).isSome = true)
  · rw [if_pos q] at h
    refine ⟨(conjC (cc37 k s_ (ByteArray.mk #[45]) q) conj0), ?_⟩
    by_cases q : (((v37 k s_ (ByteArray.mk #[(45 : UInt8)])).fst.toList == (ByteArray.mk #[]).toList) = false → (0 : Int) ≤ (0 : Int)) ∧ (((v37 k s_ (ByteArray.mk #[(45 : UInt8)])).fst.toList == (ByteArray.mk #[]).toList) = false → (0 : Int) < (↑ (v37 k s_ (ByteArray.mk #[(45 : UInt8)])).fst.size : Int))
    · rw [if_pos q] at h
      refine ⟨(conjC q.1 (conjC q.2 conj0)), ?_⟩
      refine ⟨fun c => ?_, fun c => ?_⟩
      · rw [cond_t c] at h
        cases h; exact ⟨rfl, rfl⟩
      · rw [cond_f c] at h
        exact (ev22 k k) ((v37 k s_ (ByteArray.mk #[45])).fst) ((v37 k s_ (ByteArray.mk #[45])).snd) 0 false ((↑ (v37 k s_ (ByteArray.mk #[45])).fst.size : Int)) 0 _ h
    · rw [if_neg q] at h; cases h
  · rw [if_neg q] at h; cases h
theorem cc22 (k : Nat) (s_ : ByteArray) (h : (f22 k s_).isSome = true) : CC Tryd.prog 22 (args22 s_) [] (res22 (v22 k s_)) (bo22 (v22 k s_)) := by
  cases e : f22 k s_ with
  | none => rw [e] at h; cases h
  | some r => rw [show v22 k s_ = r by simp [v22, e]]; exact of22 k s_ r e

end
end Go.AM
namespace Go.AM
open Go Go.Proofs
set_option linter.unusedVariables false
noncomputable section
def bs_H07f13_0 : ByteArray := ByteArray.mk #[35, 32, 120, 10, 97, 32, 98, 10, 10]
def bs_H07f13_1 : ByteArray := ByteArray.mk #[49, 48, 48, 48, 48, 48, 48, 48, 48, 48, 48, 48, 49]
def bs_H07f13_2 : ByteArray := ByteArray.mk #[45, 49, 48, 48, 48, 48, 48, 48, 48, 48, 48, 48, 48, 48]
def bs_H07f13_3 : ByteArray := ByteArray.mk #[(97 : UInt8), (32 : UInt8), (34 : UInt8), (34 : UInt8), (32 : UInt8), (34 : UInt8), (98 : UInt8), (92 : UInt8), (34 : UInt8), (99 : UInt8), (34 : UInt8)]
def bs_H07f13_4 : ByteArray := ByteArray.mk #[(35 : UInt8), (32 : UInt8), (120 : UInt8), (10 : UInt8), (97 : UInt8), (32 : UInt8), (98 : UInt8), (10 : UInt8), (10 : UInt8)]
/-! ### function 13: papermill/papermilllaw07.awake -/
def K13 (k : Nat) : Calld := ⟨fun g => match g with
  | 14 => some [false]
  | 16 => some [false]
  | 18 => some [false, false]
  | 19 => some [false]
  | 21 => some [false, false]
  | 22 => some [false]
  | _ => none, fun g xs _ => match g with
  | 14 => match xs with
    | [.r (.ro t0_ q0)] => (castL t0_ RTy.str q0).bind fun fields_ => some (res14 (v14 k fields_), bo14 (v14 k fields_))
    | _ => none
  | 16 => match xs with
    | [.r (.v (.string line_))] => some (res16 (v16 k line_), bo16 (v16 k line_))
    | _ => none
  | 18 => match xs with
    | [.r (.ro t0_ q0), .r (.ro t1_ q1)] => (castL t0_ RTy.str q0).bind fun a_ => (castL t1_ RTy.str q1).bind fun b_ => some (res18 (v18 k a_ b_), bo18 (v18 k a_ b_))
    | _ => none
  | 19 => match xs with
    | [.r (.v (.string text_))] => some (res19 (v19 k text_), bo19 (v19 k text_))
    | _ => none
  | 21 => match xs with
    | [.r (.ro t0_ q0), .r (.ro t1_ q1)] => (castL t0_ (RTy.list RTy.str) q0).bind fun a_ => (castL t1_ (RTy.list RTy.str) q1).bind fun b_ => some (res21 (v21 k a_ b_), bo21 (v21 k a_ b_))
    | _ => none
  | 22 => match xs with
    | [.r (.v (.string s_))] => some (res22 (v22 k s_), bo22 (v22 k s_))
    | _ => none
  | _ => none⟩
abbrev R13 : Type := Bool
def res13 (r : R13) : AV := .r (.v (.bool r))
def bo13 (r : R13) : List (Nat × Blk) := []
def f13 (k : Nat)  : Option R13 :=
  if ((f14 k [(ByteArray.mk #[97]), (ByteArray.mk #[]), (ByteArray.mk #[98, 34, 99])]).isSome = true) then
    if ((f16 k (v14 k [(ByteArray.mk #[97]), (ByteArray.mk #[]), (ByteArray.mk #[98, 34, 99])]).fst).isSome = true) then
      if ((f16 k (ByteArray.mk #[97, 32, 32, 98])).isSome = true) then
        if ((f16 k (ByteArray.mk #[34, 97, 34])).isSome = true) then
          if ((f16 k (ByteArray.mk #[97, 34, 98])).isSome = true) then
            if ((f19 k bs_H07f13_0).isSome = true) then
              if ((f22 k (ByteArray.mk #[45, 48])).isSome = true) then
                if ((f22 k bs_H07f13_1).isSome = true) then
                  if ((f22 k bs_H07f13_2).isSome = true) then
                    bif ((v14 k [(ByteArray.mk #[(97 : UInt8)]), (ByteArray.mk #[]), (ByteArray.mk #[(98 : UInt8), (34 : UInt8), (99 : UInt8)])]).snd == (0 : Int) && (v14 k [(ByteArray.mk #[(97 : UInt8)]), (ByteArray.mk #[]), (ByteArray.mk #[(98 : UInt8), (34 : UInt8), (99 : UInt8)])]).fst.toList == bs_H07f13_3.toList && (v16 k (v14 k [(ByteArray.mk #[(97 : UInt8)]), (ByteArray.mk #[]), (ByteArray.mk #[(98 : UInt8), (34 : UInt8), (99 : UInt8)])]).fst).fst == (0 : Int)) then
                      bif (true && v18 k (v16 k (v14 k [(ByteArray.mk #[(97 : UInt8)]), (ByteArray.mk #[]), (ByteArray.mk #[(98 : UInt8), (34 : UInt8), (99 : UInt8)])]).fst).snd [(ByteArray.mk #[(97 : UInt8)]), (ByteArray.mk #[]), (ByteArray.mk #[(98 : UInt8), (34 : UInt8), (99 : UInt8)])] && (v16 k (ByteArray.mk #[(97 : UInt8), (32 : UInt8), (32 : UInt8), (98 : UInt8)])).fst == (3 : Int) && (v16 k (ByteArray.mk #[(34 : UInt8), (97 : UInt8), (34 : UInt8)])).fst == (3 : Int) && (v16 k (ByteArray.mk #[(97 : UInt8), (34 : UInt8), (98 : UInt8)])).fst == (3 : Int) && (v19 k bs_H07f13_4).fst == (0 : Int)) then
                        if (((v14 k [(ByteArray.mk #[(97 : UInt8)]), (ByteArray.mk #[]), (ByteArray.mk #[(98 : UInt8), (34 : UInt8), (99 : UInt8)])]).snd == (0 : Int) && (v14 k [(ByteArray.mk #[(97 : UInt8)]), (ByteArray.mk #[]), (ByteArray.mk #[(98 : UInt8), (34 : UInt8), (99 : UInt8)])]).fst.toList == bs_H07f13_3.toList && (v16 k (v14 k [(ByteArray.mk #[(97 : UInt8)]), (ByteArray.mk #[]), (ByteArray.mk #[(98 : UInt8), (34 : UInt8), (99 : UInt8)])]).fst).fst == (0 : Int)) = true) ∧ ((f18 k (v16 k (v14 k [(ByteArray.mk #[97]), (ByteArray.mk #[]), (ByteArray.mk #[98, 34, 99])]).fst).snd [(ByteArray.mk #[97]), (ByteArray.mk #[]), (ByteArray.mk #[98, 34, 99])]).isSome = true) ∧ ((true && v18 k (v16 k (v14 k [(ByteArray.mk #[(97 : UInt8)]), (ByteArray.mk #[]), (ByteArray.mk #[(98 : UInt8), (34 : UInt8), (99 : UInt8)])]).fst).snd [(ByteArray.mk #[(97 : UInt8)]), (ByteArray.mk #[]), (ByteArray.mk #[(98 : UInt8), (34 : UInt8), (99 : UInt8)])] && (v16 k (ByteArray.mk #[(97 : UInt8), (32 : UInt8), (32 : UInt8), (98 : UInt8)])).fst == (3 : Int) && (v16 k (ByteArray.mk #[(34 : UInt8), (97 : UInt8), (34 : UInt8)])).fst == (3 : Int) && (v16 k (ByteArray.mk #[(97 : UInt8), (34 : UInt8), (98 : UInt8)])).fst == (3 : Int) && (v19 k bs_H07f13_4).fst == (0 : Int)) = true) ∧ ((f21 k (v19 k bs_H07f13_0).snd [[(ByteArray.mk #[97]), (ByteArray.mk #[98])]]).isSome = true) then
                          some (true && v21 k (v19 k bs_H07f13_0).snd [[(ByteArray.mk #[97]), (ByteArray.mk #[98])]] && (v22 k (ByteArray.mk #[45, 48])).snd == 3 && (v22 k bs_H07f13_1).snd == 1 && (v22 k bs_H07f13_2).fst == (-1000000000000) && (v22 k bs_H07f13_2).snd == 0)
                        else none
                      else
                        if (((v14 k [(ByteArray.mk #[(97 : UInt8)]), (ByteArray.mk #[]), (ByteArray.mk #[(98 : UInt8), (34 : UInt8), (99 : UInt8)])]).snd == (0 : Int) && (v14 k [(ByteArray.mk #[(97 : UInt8)]), (ByteArray.mk #[]), (ByteArray.mk #[(98 : UInt8), (34 : UInt8), (99 : UInt8)])]).fst.toList == bs_H07f13_3.toList && (v16 k (v14 k [(ByteArray.mk #[(97 : UInt8)]), (ByteArray.mk #[]), (ByteArray.mk #[(98 : UInt8), (34 : UInt8), (99 : UInt8)])]).fst).fst == (0 : Int)) = true) ∧ ((f18 k (v16 k (v14 k [(ByteArray.mk #[97]), (ByteArray.mk #[]), (ByteArray.mk #[98, 34, 99])]).fst).snd [(ByteArray.mk #[97]), (ByteArray.mk #[]), (ByteArray.mk #[98, 34, 99])]).isSome = true) ∧ ((true && v18 k (v16 k (v14 k [(ByteArray.mk #[(97 : UInt8)]), (ByteArray.mk #[]), (ByteArray.mk #[(98 : UInt8), (34 : UInt8), (99 : UInt8)])]).fst).snd [(ByteArray.mk #[(97 : UInt8)]), (ByteArray.mk #[]), (ByteArray.mk #[(98 : UInt8), (34 : UInt8), (99 : UInt8)])] && (v16 k (ByteArray.mk #[(97 : UInt8), (32 : UInt8), (32 : UInt8), (98 : UInt8)])).fst == (3 : Int) && (v16 k (ByteArray.mk #[(34 : UInt8), (97 : UInt8), (34 : UInt8)])).fst == (3 : Int) && (v16 k (ByteArray.mk #[(97 : UInt8), (34 : UInt8), (98 : UInt8)])).fst == (3 : Int) && (v19 k bs_H07f13_4).fst == (0 : Int)) = false) then
                          some (false && (v22 k (ByteArray.mk #[45, 48])).snd == 3 && (v22 k bs_H07f13_1).snd == 1 && (v22 k bs_H07f13_2).fst == (-1000000000000) && (v22 k bs_H07f13_2).snd == 0)
                        else none
                    else
                      bif (false && (v16 k (ByteArray.mk #[(97 : UInt8), (32 : UInt8), (32 : UInt8), (98 : UInt8)])).fst == (3 : Int) && (v16 k (ByteArray.mk #[(34 : UInt8), (97 : UInt8), (34 : UInt8)])).fst == (3 : Int) && (v16 k (ByteArray.mk #[(97 : UInt8), (34 : UInt8), (98 : UInt8)])).fst == (3 : Int) && (v19 k bs_H07f13_4).fst == (0 : Int)) then
                        if (((v14 k [(ByteArray.mk #[(97 : UInt8)]), (ByteArray.mk #[]), (ByteArray.mk #[(98 : UInt8), (34 : UInt8), (99 : UInt8)])]).snd == (0 : Int) && (v14 k [(ByteArray.mk #[(97 : UInt8)]), (ByteArray.mk #[]), (ByteArray.mk #[(98 : UInt8), (34 : UInt8), (99 : UInt8)])]).fst.toList == bs_H07f13_3.toList && (v16 k (v14 k [(ByteArray.mk #[(97 : UInt8)]), (ByteArray.mk #[]), (ByteArray.mk #[(98 : UInt8), (34 : UInt8), (99 : UInt8)])]).fst).fst == (0 : Int)) = false) ∧ ((false && (v16 k (ByteArray.mk #[(97 : UInt8), (32 : UInt8), (32 : UInt8), (98 : UInt8)])).fst == (3 : Int) && (v16 k (ByteArray.mk #[(34 : UInt8), (97 : UInt8), (34 : UInt8)])).fst == (3 : Int) && (v16 k (ByteArray.mk #[(97 : UInt8), (34 : UInt8), (98 : UInt8)])).fst == (3 : Int) && (v19 k bs_H07f13_4).fst == (0 : Int)) = true) ∧ ((f21 k (v19 k bs_H07f13_0).snd [[(ByteArray.mk #[97]), (ByteArray.mk #[98])]]).isSome = true) then
                          some (true && v21 k (v19 k bs_H07f13_0).snd [[(ByteArray.mk #[97]), (ByteArray.mk #[98])]] && (v22 k (ByteArray.mk #[45, 48])).snd == 3 && (v22 k bs_H07f13_1).snd == 1 && (v22 k bs_H07f13_2).fst == (-1000000000000) && (v22 k bs_H07f13_2).snd == 0)
                        else none
                      else
                        if (((v14 k [(ByteArray.mk #[(97 : UInt8)]), (ByteArray.mk #[]), (ByteArray.mk #[(98 : UInt8), (34 : UInt8), (99 : UInt8)])]).snd == (0 : Int) && (v14 k [(ByteArray.mk #[(97 : UInt8)]), (ByteArray.mk #[]), (ByteArray.mk #[(98 : UInt8), (34 : UInt8), (99 : UInt8)])]).fst.toList == bs_H07f13_3.toList && (v16 k (v14 k [(ByteArray.mk #[(97 : UInt8)]), (ByteArray.mk #[]), (ByteArray.mk #[(98 : UInt8), (34 : UInt8), (99 : UInt8)])]).fst).fst == (0 : Int)) = false) ∧ ((false && (v16 k (ByteArray.mk #[(97 : UInt8), (32 : UInt8), (32 : UInt8), (98 : UInt8)])).fst == (3 : Int) && (v16 k (ByteArray.mk #[(34 : UInt8), (97 : UInt8), (34 : UInt8)])).fst == (3 : Int) && (v16 k (ByteArray.mk #[(97 : UInt8), (34 : UInt8), (98 : UInt8)])).fst == (3 : Int) && (v19 k bs_H07f13_4).fst == (0 : Int)) = false) then
                          some (false && (v22 k (ByteArray.mk #[45, 48])).snd == 3 && (v22 k bs_H07f13_1).snd == 1 && (v22 k bs_H07f13_2).fst == (-1000000000000) && (v22 k bs_H07f13_2).snd == 0)
                        else none
                  else none
                else none
              else none
            else none
          else none
        else none
      else none
    else none
  else none
def args13  : List AV := []
def v13 (k : Nat)  : R13 := (f13 k ).getD false
theorem of13 (k : Nat)  (r : R13) (h : f13 k  = some r) : CC Tryd.prog 13 (args13 ) [] (res13 r) (bo13 r) := by
  refine CC.of (fn := Tryd.f13) (by kernel_rfl) (by kernel_rfl) (by kernel_rfl) (by kernel_rfl) ?_
  unfold f13 at h
  refine Ev.tree hm (R := Rt) (K := (K13 k)) (l := []) (C := []) (E := [.auto [0] true]) (n := 1000) (T := .need [CC Tryd.prog 14 (args14 [(ByteArray.mk #[97]), (ByteArray.mk #[]), (ByteArray.mk #[98, 34, 99])]) [] (res14 (v14 k [(ByteArray.mk #[97]), (ByteArray.mk #[]), (ByteArray.mk #[98, 34, 99])])) (bo14 (v14 k [(ByteArray.mk #[97]), (ByteArray.mk #[]), (ByteArray.mk #[98, 34, 99])]))] (.need [CC Tryd.prog 16 (args16 (v14 k [(ByteArray.mk #[97]), (ByteArray.mk #[]), (ByteArray.mk #[98, 34, 99])]).fst) [] (res16 (v16 k (v14 k [(ByteArray.mk #[97]), (ByteArray.mk #[]), (ByteArray.mk #[98, 34, 99])]).fst)) (bo16 (v16 k (v14 k [(ByteArray.mk #[97]), (ByteArray.mk #[]), (ByteArray.mk #[98, 34, 99])]).fst))] (.need [CC Tryd.prog 16 (args16 (ByteArray.mk #[97, 32, 32, 98])) [] (res16 (v16 k (ByteArray.mk #[97, 32, 32, 98]))) (bo16 (v16 k (ByteArray.mk #[97, 32, 32, 98])))] (.need [CC Tryd.prog 16 (args16 (ByteArray.mk #[34, 97, 34])) [] (res16 (v16 k (ByteArray.mk #[34, 97, 34]))) (bo16 (v16 k (ByteArray.mk #[34, 97, 34])))] (.need [CC Tryd.prog 16 (args16 (ByteArray.mk #[97, 34, 98])) [] (res16 (v16 k (ByteArray.mk #[97, 34, 98]))) (bo16 (v16 k (ByteArray.mk #[97, 34, 98])))] (.need [CC Tryd.prog 19 (args19 bs_H07f13_0) [] (res19 (v19 k bs_H07f13_0)) (bo19 (v19 k bs_H07f13_0))] (.need [CC Tryd.prog 22 (args22 (ByteArray.mk #[45, 48])) [] (res22 (v22 k (ByteArray.mk #[45, 48]))) (bo22 (v22 k (ByteArray.mk #[45, 48])))] (.need [CC Tryd.prog 22 (args22 bs_H07f13_1) [] (res22 (v22 k bs_H07f13_1)) (bo22 (v22 k bs_H07f13_1))] (.need [CC Tryd.prog 22 (args22 bs_H07f13_2) [] (res22 (v22 k bs_H07f13_2)) (bo22 (v22 k bs_H07f13_2))] (.test (((v14 k [(ByteArray.mk #[(97 : UInt8)]), (ByteArray.mk #[]), (ByteArray.mk #[(98 : UInt8), (34 : UInt8), (99 : UInt8)])]).snd == (0 : Int) && (v14 k [(ByteArray.mk #[(97 : UInt8)]), (ByteArray.mk #[]), (ByteArray.mk #[(98 : UInt8), (34 : UInt8), (99 : UInt8)])]).fst.toList == bs_H07f13_3.toList && (v16 k (v14 k [(ByteArray.mk #[(97 : UInt8)]), (ByteArray.mk #[]), (ByteArray.mk #[(98 : UInt8), (34 : UInt8), (99 : UInt8)])]).fst).fst == (0 : Int))) (.test ((true && v18 k (v16 k (v14 k [(ByteArray.mk #[(97 : UInt8)]), (ByteArray.mk #[]), (ByteArray.mk #[(98 : UInt8), (34 : UInt8), (99 : UInt8)])]).fst).snd [(ByteArray.mk #[(97 : UInt8)]), (ByteArray.mk #[]), (ByteArray.mk #[(98 : UInt8), (34 : UInt8), (99 : UInt8)])] && (v16 k (ByteArray.mk #[(97 : UInt8), (32 : UInt8), (32 : UInt8), (98 : UInt8)])).fst == (3 : Int) && (v16 k (ByteArray.mk #[(34 : UInt8), (97 : UInt8), (34 : UInt8)])).fst == (3 : Int) && (v16 k (ByteArray.mk #[(97 : UInt8), (34 : UInt8), (98 : UInt8)])).fst == (3 : Int) && (v19 k bs_H07f13_4).fst == (0 : Int))) (.need [((v14 k [(ByteArray.mk #[(97 : UInt8)]), (ByteArray.mk #[]), (ByteArray.mk #[(98 : UInt8), (34 : UInt8), (99 : UInt8)])]).snd == (0 : Int) && (v14 k [(ByteArray.mk #[(97 : UInt8)]), (ByteArray.mk #[]), (ByteArray.mk #[(98 : UInt8), (34 : UInt8), (99 : UInt8)])]).fst.toList == bs_H07f13_3.toList && (v16 k (v14 k [(ByteArray.mk #[(97 : UInt8)]), (ByteArray.mk #[]), (ByteArray.mk #[(98 : UInt8), (34 : UInt8), (99 : UInt8)])]).fst).fst == (0 : Int)) = true, CC Tryd.prog 18 (args18 (v16 k (v14 k [(ByteArray.mk #[97]), (ByteArray.mk #[]), (ByteArray.mk #[98, 34, 99])]).fst).snd [(ByteArray.mk #[97]), (ByteArray.mk #[]), (ByteArray.mk #[98, 34, 99])]) [] (res18 (v18 k (v16 k (v14 k [(ByteArray.mk #[97]), (ByteArray.mk #[]), (ByteArray.mk #[98, 34, 99])]).fst).snd [(ByteArray.mk #[97]), (ByteArray.mk #[]), (ByteArray.mk #[98, 34, 99])])) (bo18 (v18 k (v16 k (v14 k [(ByteArray.mk #[97]), (ByteArray.mk #[]), (ByteArray.mk #[98, 34, 99])]).fst).snd [(ByteArray.mk #[97]), (ByteArray.mk #[]), (ByteArray.mk #[98, 34, 99])])), (true && v18 k (v16 k (v14 k [(ByteArray.mk #[(97 : UInt8)]), (ByteArray.mk #[]), (ByteArray.mk #[(98 : UInt8), (34 : UInt8), (99 : UInt8)])]).fst).snd [(ByteArray.mk #[(97 : UInt8)]), (ByteArray.mk #[]), (ByteArray.mk #[(98 : UInt8), (34 : UInt8), (99 : UInt8)])] && (v16 k (ByteArray.mk #[(97 : UInt8), (32 : UInt8), (32 : UInt8), (98 : UInt8)])).fst == (3 : Int) && (v16 k (ByteArray.mk #[(34 : UInt8), (97 : UInt8), (34 : UInt8)])).fst == (3 : Int) && (v16 k (ByteArray.mk #[(97 : UInt8), (34 : UInt8), (98 : UInt8)])).fst == (3 : Int) && (v19 k bs_H07f13_4).fst == (0 : Int)) = true, CC Tryd.prog 21 (args21 (v19 k bs_H07f13_0).snd [[(ByteArray.mk #[97]), (ByteArray.mk #[98])]]) [] (res21 (v21 k (v19 k bs_H07f13_0).snd [[(ByteArray.mk #[97]), (ByteArray.mk #[98])]])) (bo21 (v21 k (v19 k bs_H07f13_0).snd [[(ByteArray.mk #[97]), (ByteArray.mk #[98])]]))] (.leaf (res13 (true && v21 k (v19 k bs_H07f13_0).snd [[(ByteArray.mk #[97]), (ByteArray.mk #[98])]] && (v22 k (ByteArray.mk #[45, 48])).snd == 3 && (v22 k bs_H07f13_1).snd == 1 && (v22 k bs_H07f13_2).fst == (-1000000000000) && (v22 k bs_H07f13_2).snd == 0)) (bo13 (true && v21 k (v19 k bs_H07f13_0).snd [[(ByteArray.mk #[97]), (ByteArray.mk #[98])]] && (v22 k (ByteArray.mk #[45, 48])).snd == 3 && (v22 k bs_H07f13_1).snd == 1 && (v22 k bs_H07f13_2).fst == (-1000000000000) && (v22 k bs_H07f13_2).snd == 0)))) (.need [((v14 k [(ByteArray.mk #[(97 : UInt8)]), (ByteArray.mk #[]), (ByteArray.mk #[(98 : UInt8), (34 : UInt8), (99 : UInt8)])]).snd == (0 : Int) && (v14 k [(ByteArray.mk #[(97 : UInt8)]), (ByteArray.mk #[]), (ByteArray.mk #[(98 : UInt8), (34 : UInt8), (99 : UInt8)])]).fst.toList == bs_H07f13_3.toList && (v16 k (v14 k [(ByteArray.mk #[(97 : UInt8)]), (ByteArray.mk #[]), (ByteArray.mk #[(98 : UInt8), (34 : UInt8), (99 : UInt8)])]).fst).fst == (0 : Int)) = true, CC Tryd.prog 18 (args18 (v16 k (v14 k [(ByteArray.mk #[97]), (ByteArray.mk #[]), (ByteArray.mk #[98, 34, 99])]).fst).snd [(ByteArray.mk #[97]), (ByteArray.mk #[]), (ByteArray.mk #[98, 34, 99])]) [] (res18 (v18 k (v16 k (v14 k [(ByteArray.mk #[97]), (ByteArray.mk #[]), (ByteArray.mk #[98, 34, 99])]).fst).snd [(ByteArray.mk #[97]), (ByteArray.mk #[]), (ByteArray.mk #[98, 34, 99])])) (bo18 (v18 k (v16 k (v14 k [(ByteArray.mk #[97]), (ByteArray.mk #[]), (ByteArray.mk #[98, 34, 99])]).fst).snd [(ByteArray.mk #[97]), (ByteArray.mk #[]), (ByteArray.mk #[98, 34, 99])])), (true && v18 k (v16 k (v14 k [(ByteArray.mk #[(97 : UInt8)]), (ByteArray.mk #[]), (ByteArray.mk #[(98 : UInt8), (34 : UInt8), (99 : UInt8)])]).fst).snd [(ByteArray.mk #[(97 : UInt8)]), (ByteArray.mk #[]), (ByteArray.mk #[(98 : UInt8), (34 : UInt8), (99 : UInt8)])] && (v16 k (ByteArray.mk #[(97 : UInt8), (32 : UInt8), (32 : UInt8), (98 : UInt8)])).fst == (3 : Int) && (v16 k (ByteArray.mk #[(34 : UInt8), (97 : UInt8), (34 : UInt8)])).fst == (3 : Int) && (v16 k (ByteArray.mk #[(97 : UInt8), (34 : UInt8), (98 : UInt8)])).fst == (3 : Int) && (v19 k bs_H07f13_4).fst == (0 : Int)) = false] (.leaf (res13 (false && (v22 k (ByteArray.mk #[45, 48])).snd == 3 && (v22 k bs_H07f13_1).snd == 1 && (v22 k bs_H07f13_2).fst == (-1000000000000) && (v22 k bs_H07f13_2).snd == 0)) (bo13 (false && (v22 k (ByteArray.mk #[45, 48])).snd == 3 && (v22 k bs_H07f13_1).snd == 1 && (v22 k bs_H07f13_2).fst == (-1000000000000) && (v22 k bs_H07f13_2).snd == 0))))) (.test ((false && (v16 k (ByteArray.mk #[(97 : UInt8), (32 : UInt8), (32 : UInt8), (98 : UInt8)])).fst == (3 : Int) && (v16 k (ByteArray.mk #[(34 : UInt8), (97 : UInt8), (34 : UInt8)])).fst == (3 : Int) && (v16 k (ByteArray.mk #[(97 : UInt8), (34 : UInt8), (98 : UInt8)])).fst == (3 : Int) && (v19 k bs_H07f13_4).fst == (0 : Int))) (.need [((v14 k [(ByteArray.mk #[(97 : UInt8)]), (ByteArray.mk #[]), (ByteArray.mk #[(98 : UInt8), (34 : UInt8), (99 : UInt8)])]).snd == (0 : Int) && (v14 k [(ByteArray.mk #[(97 : UInt8)]), (ByteArray.mk #[]), (ByteArray.mk #[(98 : UInt8), (34 : UInt8), (99 : UInt8)])]).fst.toList == bs_H07f13_3.toList && (v16 k (v14 k [(ByteArray.mk #[(97 : UInt8)]), (ByteArray.mk #[]), (ByteArray.mk #[(98 : UInt8), (34 : UInt8), (99 : UInt8)])]).fst).fst == (0 : Int)) = false, (false && (v16 k (ByteArray.mk #[(97 : UInt8), (32 : UInt8), (32 : UInt8), (98 : UInt8)])).fst == (3 : Int) && (v16 k (ByteArray.mk #[(34 : UInt8), (97 : UInt8), (34 : UInt8)])).fst == (3 : Int) && (v16 k (ByteArray.mk #[(97 : UInt8), (34 : UInt8), (98 : UInt8)])).fst == (3 : Int) && (v19 k bs_H07f13_4).fst == (0 : Int)) = true, CC Tryd.prog 21 (args21 (v19 k bs_H07f13_0).snd [[(ByteArray.mk #[97]), (ByteArray.mk #[98])]]) [] (res21 (v21 k (v19 k bs_H07f13_0).snd [[(ByteArray.mk #[97]), (ByteArray.mk #[98])]])) (bo21 (v21 k (v19 k bs_H07f13_0).snd [[(ByteArray.mk #[97]), (ByteArray.mk #[98])]]))] (.leaf (res13 (true && v21 k (v19 k bs_H07f13_0).snd [[(ByteArray.mk #[97]), (ByteArray.mk #[98])]] && (v22 k (ByteArray.mk #[45, 48])).snd == 3 && (v22 k bs_H07f13_1).snd == 1 && (v22 k bs_H07f13_2).fst == (-1000000000000) && (v22 k bs_H07f13_2).snd == 0)) (bo13 (true && v21 k (v19 k bs_H07f13_0).snd [[(ByteArray.mk #[97]), (ByteArray.mk #[98])]] && (v22 k (ByteArray.mk #[45, 48])).snd == 3 && (v22 k bs_H07f13_1).snd == 1 && (v22 k bs_H07f13_2).fst == (-1000000000000) && (v22 k bs_H07f13_2).snd == 0)))) (.need [((v14 k [(ByteArray.mk #[(97 : UInt8)]), (ByteArray.mk #[]), (ByteArray.mk #[(98 : UInt8), (34 : UInt8), (99 : UInt8)])]).snd == (0 : Int) && (v14 k [(ByteArray.mk #[(97 : UInt8)]), (ByteArray.mk #[]), (ByteArray.mk #[(98 : UInt8), (34 : UInt8), (99 : UInt8)])]).fst.toList == bs_H07f13_3.toList && (v16 k (v14 k [(ByteArray.mk #[(97 : UInt8)]), (ByteArray.mk #[]), (ByteArray.mk #[(98 : UInt8), (34 : UInt8), (99 : UInt8)])]).fst).fst == (0 : Int)) = false, (false && (v16 k (ByteArray.mk #[(97 : UInt8), (32 : UInt8), (32 : UInt8), (98 : UInt8)])).fst == (3 : Int) && (v16 k (ByteArray.mk #[(34 : UInt8), (97 : UInt8), (34 : UInt8)])).fst == (3 : Int) && (v16 k (ByteArray.mk #[(97 : UInt8), (34 : UInt8), (98 : UInt8)])).fst == (3 : Int) && (v19 k bs_H07f13_4).fst == (0 : Int)) = false] (.leaf (res13 (false && (v22 k (ByteArray.mk #[45, 48])).snd == 3 && (v22 k bs_H07f13_1).snd == 1 && (v22 k bs_H07f13_2).fst == (-1000000000000) && (v22 k bs_H07f13_2).snd == 0)) (bo13 (false && (v22 k (ByteArray.mk #[45, 48])).snd == 3 && (v22 k bs_H07f13_1).snd == 1 && (v22 k bs_H07f13_2).fst == (-1000000000000) && (v22 k bs_H07f13_2).snd == 0))))))))))))))) (by kernel_rfl) ?_
  by_cases q : ((f14 k [(ByteArray.mk #[97]), (ByteArray.mk #[]), (ByteArray.mk #[98, 34, 99])]).isSome = true)
  · rw [if_pos q] at h
    refine ⟨(conjC (cc14 k [(ByteArray.mk #[97]), (ByteArray.mk #[]), (ByteArray.mk #[98, 34, 99])] q) conj0), ?_⟩
    by_cases q : ((f16 k (v14 k [(ByteArray.mk #[97]), (ByteArray.mk #[]), (ByteArray.mk #[98, 34, 99])]).fst).isSome = true)
    · rw [if_pos q] at h
      refine ⟨(conjC (cc16 k (v14 k [(ByteArray.mk #[97]), (ByteArray.mk #[]), (ByteArray.mk #[98, 34, 99])]).fst q) conj0), ?_⟩
      by_cases q : ((f16 k (ByteArray.mk #[97, 32, 32, 98])).isSome = true)
      · rw [if_pos q] at h
        refine ⟨(conjC (cc16 k (ByteArray.mk #[97, 32, 32, 98]) q) conj0), ?_⟩
        by_cases q : ((f16 k (ByteArray.mk #[34, 97, 34])).isSome = true)
        · rw [if_pos q] at h
          refine ⟨(conjC (cc16 k (ByteArray.mk #[34, 97, 34]) q) conj0), ?_⟩
          by_cases q : ((f16 k (ByteArray.mk #[97, 34, 98])).isSome = true)
          · rw [if_pos q] at h
            refine ⟨(conjC (cc16 k (ByteArray.mk #[97, 34, 98]) q) conj0), ?_⟩
            by_cases q : ((f19 k bs_H07f13_0).isSome = true)
            · rw [if_pos q] at h
              refine ⟨(conjC (cc19 k bs_H07f13_0 q) conj0), ?_⟩
              by_cases q : ((f22 k (ByteArray.mk #[45, 48])).isSome = true)
              · rw [if_pos q] at h
                refine ⟨(conjC (cc22 k (ByteArray.mk #[45, 48]) q) conj0), ?_⟩
                by_cases q : ((f22 k bs_H07f13_1).isSome = true)
                · rw [if_pos q] at h
                  refine ⟨(conjC (cc22 k bs_H07f13_1 q) conj0), ?_⟩
                  by_cases q : ((f22 k bs_H07f13_2).isSome = true)
                  · rw [if_pos q] at h
                    refine ⟨(conjC (cc22 k bs_H07f13_2 q) conj0), ?_⟩
                    refine ⟨fun c => ?_, fun c => ?_⟩
                    · rw [cond_t c] at h
                      refine ⟨fun c => ?_, fun c => ?_⟩
                      · rw [cond_t c] at h
                        by_cases q : (((v14 k [(ByteArray.mk #[(97 : UInt8)]), (ByteArray.mk #[]), (ByteArray.mk #[(98 : UInt8), (34 : UInt8), (99 : UInt8)])]).snd == (0 : Int) && (v14 k [(ByteArray.mk #[(97 : UInt8)]), (ByteArray.mk #[]), (ByteArray.mk #[(98 : UInt8), (34 : UInt8), (99 : UInt8)])]).fst.toList == bs_H07f13_3.toList && (v16 k (v14 k [(ByteArray.mk #[(97 : UInt8)]), (ByteArray.mk #[]), (ByteArray.mk #[(98 : UInt8), (34 : UInt8), (99 : UInt8)])]).fst).fst == (0 : Int)) = true) ∧ ((f18 k (v16 k (v14 k [(ByteArray.mk #[97]), (ByteArray.mk #[]), (ByteArray.mk #[98, 34, 99])]).fst).snd [(ByteArray.mk #[97]), (ByteArray.mk #[]), (ByteArray.mk #[98, 34, 99])]).isSome = true) ∧ ((true && v18 k (v16 k (v14 k [(ByteArray.mk #[(97 : UInt8)]), (ByteArray.mk #[]), (ByteArray.mk #[(98 : UInt8), (34 : UInt8), (99 : UInt8)])]).fst).snd [(ByteArray.mk #[(97 : UInt8)]), (ByteArray.mk #[]), (ByteArray.mk #[(98 : UInt8), (34 : UInt8), (99 : UInt8)])] && (v16 k (ByteArray.mk #[(97 : UInt8), (32 : UInt8), (32 : UInt8), (98 : UInt8)])).fst == (3 : Int) && (v16 k (ByteArray.mk #[(34 : UInt8), (97 : UInt8), (34 : UInt8)])).fst == (3 : Int) && (v16 k (ByteArray.mk #[(97 : UInt8), (34 : UInt8), (98 : UInt8)])).fst == (3 : Int) && (v19 k bs_H07f13_4).fst == (0 : Int)) = true) ∧ ((f21 k (v19 k bs_H07f13_0).snd [[(ByteArray.mk #[97]), (ByteArray.mk #[98])]]).isSome = true)
                        · rw [if_pos q] at h
                          refine ⟨(conjC q.1 (conjC (cc18 k (v16 k (v14 k [(ByteArray.mk #[97]), (ByteArray.mk #[]), (ByteArray.mk #[98, 34, 99])]).fst).snd [(ByteArray.mk #[97]), (ByteArray.mk #[]), (ByteArray.mk #[98, 34, 99])] q.2.1) (conjC q.2.2.1 (conjC (cc21 k (v19 k bs_H07f13_0).snd [[(ByteArray.mk #[97]), (ByteArray.mk #[98])]] q.2.2.2) conj0)))), ?_⟩
                          cases h; exact ⟨rfl, rfl⟩
                        · rw [if_neg q] at h; cases h
                      · rw [cond_f c] at h
                        by_cases q : (((v14 k [(ByteArray.mk #[(97 : UInt8)]), (ByteArray.mk #[]), (ByteArray.mk #[(98 : UInt8), (34 : UInt8), (99 : UInt8)])]).snd == (0 : Int) && (v14 k [(ByteArray.mk #[(97 : UInt8)]), (ByteArray.mk #[]), (ByteArray.mk #[(98 : UInt8), (34 : UInt8), (99 : UInt8)])]).fst.toList == bs_H07f13_3.toList && (v16 k (v14 k [(ByteArray.mk #[(97 : UInt8)]), (ByteArray.mk #[]), (ByteArray.mk #[(98 : UInt8), (34 : UInt8), (99 : UInt8)])]).fst).fst == (0 : Int)) = true) ∧ ((f18 k (v16 k (v14 k [(ByteArray.mk #[97]), (ByteArray.mk #[]), (ByteArray.mk #[98, 34, 99])]).fst).snd [(ByteArray.mk #[97]), (ByteArray.mk #[]), (ByteArray.mk #[98, 34, 99])]).isSome = true) ∧ ((true && v18 k (v16 k (v14 k [(ByteArray.mk #[(97 : UInt8)]), (ByteArray.mk #[]), (ByteArray.mk #[(98 : UInt8), (34 : UInt8), (99 : UInt8)])]).fst).snd [(ByteArray.mk #[(97 : UInt8)]), (ByteArray.mk #[]), (ByteArray.mk #[(98 : UInt8), (34 : UInt8), (99 : UInt8)])] && (v16 k (ByteArray.mk #[(97 : UInt8), (32 : UInt8), (32 : UInt8), (98 : UInt8)])).fst == (3 : Int) && (v16 k (ByteArray.mk #[(34 : UInt8), (97 : UInt8), (34 : UInt8)])).fst == (3 : Int) && (v16 k (ByteArray.mk #[(97 : UInt8), (34 : UInt8), (98 : UInt8)])).fst == (3 : Int) && (v19 k bs_H07f13_4).fst == (0 : Int)) = false)
                        · rw [if_pos q] at h
                          refine ⟨(conjC q.1 (conjC (cc18 k (v16 k (v14 k [(ByteArray.mk #[97]), (ByteArray.mk #[]), (ByteArray.mk #[98, 34, 99])]).fst).snd [(ByteArray.mk #[97]), (ByteArray.mk #[]), (ByteArray.mk #[98, 34, 99])] q.2.1) (conjC q.2.2 conj0))), ?_⟩
                          cases h; exact ⟨rfl, rfl⟩
                        · rw [if_neg q] at h; cases h
                    · rw [cond_f c] at h
                      refine ⟨fun c => ?_, fun c => ?_⟩
                      · rw [cond_t c] at h
                        by_cases q : (((v14 k [(ByteArray.mk #[(97 : UInt8)]), (ByteArray.mk #[]), (ByteArray.mk #[(98 : UInt8), (34 : UInt8), (99 : UInt8)])]).snd == (0 : Int) && (v14 k [(ByteArray.mk #[(97 : UInt8)]), (ByteArray.mk #[]), (ByteArray.mk #[(98 : UInt8), (34 : UInt8), (99 : UInt8)])]).fst.toList == bs_H07f13_3.toList && (v16 k (v14 k [(ByteArray.mk #[(97 : UInt8)]), (ByteArray.mk #[]), (ByteArray.mk #[(98 : UInt8), (34 : UInt8), (99 : UInt8)])]).fst).fst == (0 : Int)) = false) ∧ ((false && (v16 k (ByteArray.mk #[(97 : UInt8), (32 : UInt8), (32 : UInt8), (98 : UInt8)])).fst == (3 : Int) && (v16 k (ByteArray.mk #[(34 : UInt8), (97 : UInt8), (34 : UInt8)])).fst == (3 : Int) && (v16 k (ByteArray.mk #[(97 : UInt8), (34 : UInt8), (98 : UInt8)])).fst == (3 : Int) && (v19 k bs_H07f13_4).fst == (0 : Int)) = true) ∧ ((f21 k (v19 k bs_H07f13_0).snd [[(ByteArray.mk #[97]), (ByteArray.mk #[98])]]).isSome = true)
                        · rw [if_pos q] at h
                          refine ⟨(conjC q.1 (conjC q.2.1 (conjC (cc21 k (v19 k bs_H07f13_0).snd [[(ByteArray.mk #[97]), (ByteArray.mk #[98])]] q.2.2) conj0))), ?_⟩
                          cases h; exact ⟨rfl, rfl⟩
                        · rw [if_neg q] at h; cases h
                      · rw [cond_f c] at h
                        by_cases q : (((v14 k [(ByteArray.mk #[(97 : UInt8)]), (ByteArray.mk #[]), (ByteArray.mk #[(98 : UInt8), (34 : UInt8), (99 : UInt8)])]).snd == (0 : Int) && (v14 k [(ByteArray.mk #[(97 : UInt8)]), (ByteArray.mk #[]), (ByteArray.mk #[(98 : UInt8), (34 : UInt8), (99 : UInt8)])]).fst.toList == bs_H07f13_3.toList && (v16 k (v14 k [(ByteArray.mk #[(97 : UInt8)]), (ByteArray.mk #[]), (ByteArray.mk #[(98 : UInt8), (34 : UInt8), (99 : UInt8)])]).fst).fst == (0 : Int)) = false) ∧ ((false && (v16 k (ByteArray.mk #[(97 : UInt8), (32 : UInt8), (32 : UInt8), (98 : UInt8)])).fst == (3 : Int) && (v16 k (ByteArray.mk #[(34 : UInt8), (97 : UInt8), (34 : UInt8)])).fst == (3 : Int) && (v16 k (ByteArray.mk #[(97 : UInt8), (34 : UInt8), (98 : UInt8)])).fst == (3 : Int) && (v19 k bs_H07f13_4).fst == (0 : Int)) = false)
                        · rw [if_pos q] at h
                          refine ⟨(conjC q.1 (conjC q.2 conj0)), ?_⟩
                          cases h; exact ⟨rfl, rfl⟩
                        · rw [if_neg q] at h; cases h
                  · rw [if_neg q] at h; cases h
                · rw [if_neg q] at h; cases h
              · rw [if_neg q] at h; cases h
            · rw [if_neg q] at h; cases h
          · rw [if_neg q] at h; cases h
        · rw [if_neg q] at h; cases h
      · rw [if_neg q] at h; cases h
    · rw [if_neg q] at h; cases h
  · rw [if_neg q] at h; cases h
theorem cc13 (k : Nat)  (h : (f13 k ).isSome = true) : CC Tryd.prog 13 (args13 ) [] (res13 (v13 k )) (bo13 (v13 k )) := by
  cases e : f13 k  with
  | none => rw [e] at h; cases h
  | some r => rw [show v13 k  = r by simp [v13, e]]; exact of13 k  r e

end
end Go.AM
namespace Go.AM
open Go Go.Proofs
def KK : Nat := 600
theorem f13_t : f13 KK = some true := by kernel_rfl
end Go.AM
namespace Go.AM
open Go Go.Proofs
set_option linter.unusedVariables false
noncomputable section
/-! ### function 23: papermill/papermillref07.Number -/
def K23 (k : Nat) : Calld := ⟨fun g => match g with
  | _ => none, fun g xs _ => match g with
  | _ => none⟩
abbrev R23 : Type := Int × Int
def res23 (r : R23) : AV := .tup [.r (.v (.int .i64 r.1)), .r (.v (.int .i64 r.2))]
def bo23 (r : R23) : List (Nat × Blk) := []
def st23_8 (x0 : ByteArray) (x1 : ByteArray) (x2 : Int) (x3 : Int) : St := ⟨mkS 61 [(0, .r (.v (.string x0))), (4, .r (.v (.string x1))), (5, .r (.v (.int .i64 x2))), (6, .r (.v (.int .i64 x3)))], []⟩
def f23_8 (k : Nat) : Nat → ByteArray → ByteArray → Int → Int → Option R23
  | 0, _, _, _, _ => none
  | j + 1, x0, x1, x2, x3 =>
    bif (decide (x3 < (↑x1.size : Int))) then
      if ((0 : Int) ≤ x3) ∧ (x3 < (↑x1.size : Int)) ∧ (decide (bAt x1 x3 < (48 : Int)) = false → (0 : Int) ≤ x3) ∧ (decide (bAt x1 x3 < (48 : Int)) = false → x3 < (↑x1.size : Int)) then
        bif (decide (bAt x1 x3 < (48 : Int)) || decide (bAt x1 x3 > (57 : Int))) then
          some ((0, 3))
        else
          if ((0 : Int) ≤ x3) ∧ (x3 < (↑x1.size : Int)) then
            f23_8 k j x0 x1 ((if 2000000000000 < IntKind.i64.wrap (IntKind.i64.wrap (10 * x2) + IntKind.i64.wrap (IntKind.u8.wrap (bAt x1 x3 - 48))) then 2000000000000 else IntKind.i64.wrap (IntKind.i64.wrap (10 * x2) + IntKind.i64.wrap (IntKind.u8.wrap (bAt x1 x3 - 48))))) ((IntKind.i64.wrap (x3 + 1)))
          else none
      else none
    else
      bif (decide (x2 > (1000000000000 : Int))) then
        some ((0, 1))
      else
        bif (!x1.toList == x0.toList) then
          some ((IntKind.i64.wrap (0 - x2), 0))
        else
          some ((x2, 0))
def f23 (k : Nat) (s_ : ByteArray) : Option R23 :=
  if ((!s_.toList == (ByteArray.mk #[]).toList) = true → (0 : Int) ≤ (0 : Int)) ∧ ((!s_.toList == (ByteArray.mk #[]).toList) = true → (0 : Int) < (↑s_.size : Int)) then
    bif (!s_.toList == (ByteArray.mk #[]).toList && bAt s_ (0 : Int) == (45 : Int)) then
      if ((0 : Int) ≤ (1 : Int)) ∧ ((1 : Int) ≤ (↑s_.size : Int)) ∧ ((↑s_.size : Int) ≤ (↑s_.size : Int)) then
        if (((s_.extract (Int.toNat (1 : Int)) (↑s_.size : Int).toNat).toList == (ByteArray.mk #[]).toList) = false → (0 : Int) ≤ (0 : Int)) ∧ (((s_.extract (Int.toNat (1 : Int)) (↑s_.size : Int).toNat).toList == (ByteArray.mk #[]).toList) = false → (0 : Int) < (↑ (s_.extract (Int.toNat (1 : Int)) (↑s_.size : Int).toNat).size : Int)) then
          bif ((s_.extract (Int.toNat (1 : Int)) (↑s_.size : Int).toNat).toList == (ByteArray.mk #[]).toList || bAt (s_.extract (Int.toNat (1 : Int)) (↑s_.size : Int).toNat) (0 : Int) == (48 : Int) && !s_.toList == (ByteArray.mk #[(48 : UInt8)]).toList) then
            some ((0, 3))
          else
            f23_8 k k s_ ((s_.extract (Int.toNat 1) (↑s_.size : Int).toNat)) 0 0
        else none
      else none
    else
      if ((s_.toList == (ByteArray.mk #[]).toList) = false → (0 : Int) ≤ (0 : Int)) ∧ ((s_.toList == (ByteArray.mk #[]).toList) = false → (0 : Int) < (↑s_.size : Int)) then
        bif (s_.toList == (ByteArray.mk #[]).toList || bAt s_ (0 : Int) == (48 : Int) && !s_.toList == (ByteArray.mk #[(48 : UInt8)]).toList) then
          some ((0, 3))
        else
          f23_8 k k s_ s_ 0 0
      else none
  else none
def args23 (s_ : ByteArray) : List AV := [.r (.v (.string s_))]
def v23 (k : Nat) (s_ : ByteArray) : R23 := (f23 k s_).getD (0, 0)
theorem ev23 (k : Nat) : ∀ j, (∀ (x0 : ByteArray) (x1 : ByteArray) (x2 : Int) (x3 : Int) (r : R23), f23_8 k j x0 x1 x2 x3 = some r → Ev Tryd.prog Tryd.f23 0 (placeAt Tryd.f23 8) (st23_8 x0 x1 x2 x3) (res23 r) (bo23 r))
  | 0 => by
    intros; rename_i h; simp [f23_8] at h
  | j + 1 => by
    have ih := ev23 k j
    · intro x0 x1 x2 x3 r h
      rw [f23_8] at h
      refine Ev.tree hm (R := Rt) (K := (K23 k)) (l := []) (C := [(8, [.auto [0, 4, 5, 6] false])]) (E := [.auto [2, 3] true]) (n := 1000) (T := .test ((decide (x3 < (↑x1.size : Int)))) (.need [(0 : Int) ≤ x3, x3 < (↑x1.size : Int), decide (bAt x1 x3 < (48 : Int)) = false → (0 : Int) ≤ x3, decide (bAt x1 x3 < (48 : Int)) = false → x3 < (↑x1.size : Int)] (.test ((decide (bAt x1 x3 < (48 : Int)) || decide (bAt x1 x3 > (57 : Int)))) (.leaf (res23 ((0, 3))) (bo23 ((0, 3)))) (.need [(0 : Int) ≤ x3, x3 < (↑x1.size : Int)] (.cut 8 (placeAt Tryd.f23 8) (st23_8 x0 x1 ((if 2000000000000 < IntKind.i64.wrap (IntKind.i64.wrap (10 * x2) + IntKind.i64.wrap (IntKind.u8.wrap (bAt x1 x3 - 48))) then 2000000000000 else IntKind.i64.wrap (IntKind.i64.wrap (10 * x2) + IntKind.i64.wrap (IntKind.u8.wrap (bAt x1 x3 - 48))))) ((IntKind.i64.wrap (x3 + 1)))))))) (.test ((decide (x2 > (1000000000000 : Int)))) (.leaf (res23 ((0, 1))) (bo23 ((0, 1)))) (.test ((!x1.toList == x0.toList)) (.leaf (res23 ((IntKind.i64.wrap (0 - x2), 0))) (bo23 ((IntKind.i64.wrap (0 - x2), 0)))) (.leaf (res23 ((x2, 0))) (bo23 ((x2, 0))))))) (by kernel_rfl) ?_
      refine ⟨fun c => ?_, fun c => ?_⟩
      · rw [cond_t c] at h
        by_cases q : ((0 : Int) ≤ x3) ∧ (x3 < (↑x1.size : Int)) ∧ (decide (bAt x1 x3 < (48 : Int)) = false → (0 : Int) ≤ x3) ∧ (decide (bAt x1 x3 < (48 : Int)) = false → x3 < (↑x1.size : Int))
        · rw [if_pos q] at h
          refine ⟨(conjC q.1 (conjC q.2.1 (conjC q.2.2.1 (conjC q.2.2.2 conj0)))), ?_⟩
          refine ⟨fun c => ?_, fun c => ?_⟩
          · rw [cond_t c] at h
            cases h; exact ⟨rfl, rfl⟩
          · rw [cond_f c] at h
            by_cases q : ((0 : Int) ≤ x3) ∧ (x3 < (↑x1.size : Int))
            · rw [if_pos q] at h
              refine ⟨(conjC q.1 (conjC q.2 conj0)), ?_⟩
              exact ih x0 x1 ((if 2000000000000 < IntKind.i64.wrap (IntKind.i64.wrap (10 * x2) + IntKind.i64.wrap (IntKind.u8.wrap (bAt x1 x3 - 48))) then 2000000000000 else IntKind.i64.wrap (IntKind.i64.wrap (10 * x2) + IntKind.i64.wrap (IntKind.u8.wrap (bAt x1 x3 - 48))))) ((IntKind.i64.wrap (x3 + 1))) _ h
            · rw [if_neg q] at h; cases h
        · rw [if_neg q] at h; cases h
      · rw [cond_f c] at h
        refine ⟨fun c => ?_, fun c => ?_⟩
        · rw [cond_t c] at h
          cases h; exact ⟨rfl, rfl⟩
        · rw [cond_f c] at h
          refine ⟨fun c => ?_, fun c => ?_⟩
          · rw [cond_t c] at h
            cases h; exact ⟨rfl, rfl⟩
          · rw [cond_f c] at h
            cases h; exact ⟨rfl, rfl⟩
theorem of23 (k : Nat) (s_ : ByteArray) (r : R23) (h : f23 k s_ = some r) : CC Tryd.prog 23 (args23 s_) [] (res23 r) (bo23 r) := by
  refine CC.of (fn := Tryd.f23) (by kernel_rfl) (by kernel_rfl) (by kernel_rfl) (by kernel_rfl) ?_
  unfold f23 at h
  refine Ev.tree hm (R := Rt) (K := (K23 k)) (l := []) (C := [(8, [.auto [0, 4, 5, 6] false])]) (E := [.auto [2, 3] true]) (n := 1000) (T := .need [(!s_.toList == (ByteArray.mk #[]).toList) = true → (0 : Int) ≤ (0 : Int), (!s_.toList == (ByteArray.mk #[]).toList) = true → (0 : Int) < (↑s_.size : Int)] (.test ((!s_.toList == (ByteArray.mk #[]).toList && bAt s_ (0 : Int) == (45 : Int))) (.need [(0 : Int) ≤ (1 : Int), (1 : Int) ≤ (↑s_.size : Int), (↑s_.size : Int) ≤ (↑s_.size : Int)] (.need [((s_.extract (Int.toNat (1 : Int)) (↑s_.size : Int).toNat).toList == (ByteArray.mk #[]).toList) = false → (0 : Int) ≤ (0 : Int), ((s_.extract (Int.toNat (1 : Int)) (↑s_.size : Int).toNat).toList == (ByteArray.mk #[]).toList) = false → (0 : Int) < (↑ (s_.extract (Int.toNat (1 : Int)) (↑s_.size : Int).toNat).size : Int)] (.test (((s_.extract (Int.toNat (1 : Int)) (↑s_.size : Int).toNat).toList == (ByteArray.mk #[]).toList || bAt (s_.extract (Int.toNat (1 : Int)) (↑s_.size : Int).toNat) (0 : Int) == (48 : Int) && !s_.toList == (ByteArray.mk #[(48 : UInt8)]).toList)) (.leaf (res23 ((0, 3))) (bo23 ((0, 3)))) (.cut 8 (placeAt Tryd.f23 8) (st23_8 s_ ((s_.extract (Int.toNat 1) (↑s_.size : Int).toNat)) 0 0))))) (.need [(s_.toList == (ByteArray.mk #[]).toList) = false → (0 : Int) ≤ (0 : Int), (s_.toList == (ByteArray.mk #[]).toList) = false → (0 : Int) < (↑s_.size : Int)] (.test ((s_.toList == (ByteArray.mk #[]).toList || bAt s_ (0 : Int) == (48 : Int) && !s_.toList == (ByteArray.mk #[(48 : UInt8)]).toList)) (.leaf (res23 ((0, 3))) (bo23 ((0, 3)))) (.cut 8 (placeAt Tryd.f23 8) (st23_8 s_ s_ 0 0)))))) (by kernel_rfl) ?_
  by_cases q : ((!s_.toList == (ByteArray.mk #[]).toList) = true → (0 : Int) ≤ (0 : Int)) ∧ ((!s_.toList == (ByteArray.mk #[]).toList) = true → (0 : Int) < (↑s_.size : Int))
  · rw [if_pos q] at h
    refine ⟨(conjC q.1 (conjC q.2 conj0)), ?_⟩
    refine ⟨fun c => ?_, fun c => ?_⟩
    · rw [cond_t c] at h
      by_cases q : ((0 : Int) ≤ (1 : Int)) ∧ ((1 : Int) ≤ (↑s_.size : Int)) ∧ ((↑s_.size : Int) ≤ (↑s_.size : Int))
      · rw [if_pos q] at h
        refine ⟨(conjC q.1 (conjC q.2.1 (conjC q.2.2 conj0))), ?_⟩
        by_cases q : (((s_.extract (Int.toNat (1 : Int)) (↑s_.size : Int).toNat).toList == (ByteArray.mk #[]).toList) = false → (0 : Int) ≤ (0 : Int)) ∧ (((s_.extract (Int.toNat (1 : Int)) (↑s_.size : Int).toNat).toList == (ByteArray.mk #[]).toList) = false → (0 : Int) < (↑ (s_.extract (Int.toNat (1 : Int)) (↑s_.size : Int).toNat).size : Int))
        · rw [if_pos q] at h
          refine ⟨(conjC q.1 (conjC q.2 conj0)), ?_⟩
          refine ⟨fun c => ?_, fun c => ?_⟩
          · rw [cond_t c] at h
            cases h; exact ⟨rfl, rfl⟩
          · rw [cond_f c] at h
            exact (ev23 k k) s_ ((s_.extract (Int.toNat 1) (↑s_.size : Int).toNat)) 0 0 _ h
        · rw [if_neg q] at h; cases h
      · rw [if_neg q] at h; cases h
    · rw [cond_f c] at h
      by_cases q : ((s_.toList == (ByteArray.mk #[]).toList) = false → (0 : Int) ≤ (0 : Int)) ∧ ((s_.toList == (ByteArray.mk #[]).toList) = false → (0 : Int) < (↑s_.size : Int))
      · rw [if_pos q] at h
        refine ⟨(conjC q.1 (conjC q.2 conj0)), ?_⟩
        refine ⟨fun c => ?_, fun c => ?_⟩
        · rw [cond_t c] at h
          cases h; exact ⟨rfl, rfl⟩
        · rw [cond_f c] at h
          exact (ev23 k k) s_ s_ 0 0 _ h
      · rw [if_neg q] at h; cases h
  · rw [if_neg q] at h; cases h
theorem cc23 (k : Nat) (s_ : ByteArray) (h : (f23 k s_).isSome = true) : CC Tryd.prog 23 (args23 s_) [] (res23 (v23 k s_)) (bo23 (v23 k s_)) := by
  cases e : f23 k s_ with
  | none => rw [e] at h; cases h
  | some r => rw [show v23 k s_ = r by simp [v23, e]]; exact of23 k s_ r e

end
end Go.AM
namespace Go.AM
open Go Go.Proofs

theorem u8_id {i : Int} (h0 : 0 ≤ i) (h1 : i < 256) : IntKind.u8.wrap i = i := by
  simp [IntKind.wrap, IntKind.bits, IntKind.signed]; omega

theorem tl_data (s : ByteArray) : s.toList = s.data.toList := Lib.toList_data s

theorem loopN (k : Nat) (s d : ByteArray) (neg : Bool) (hneg : (!d.toList == s.toList) = neg) (hd : d.size ≤ 1000) :
    ∀ (j i : Nat) (n nR : Int) (g : Bool), i ≤ d.size → d.size - i < j → 0 ≤ n → n ≤ 1000000000000 → 0 ≤ nR → nR ≤ 2000000000000 → (g = false → n = nR) → (g = true → 1000000000000 < nR) →
      ∃ r, f22_6 k j d neg n g (d.size : Int) (i : Int) = some r ∧ f23_8 k j s d nR (i : Int) = some r
  | 0, i, n, nR, g, _, h, _, _, _, _, _, _ => by omega
  | j + 1, i, n, nR, g, hi, hj, h0, h1, h2, h3, h4, h5 => by
    unfold f22_6 f23_8
    by_cases hlt : i < d.size
    · have e1 : decide ((i : Int) < (d.size : Int)) = true := decide_eq_true (by omega)
      rw [e1]
      simp only [cond_true]
      rw [if_pos ⟨by omega, by omega⟩, if_pos ⟨by omega, by omega, fun _ => by omega, fun _ => by omega⟩]
      cases hc : (decide (bAt d (i : Int) < (48 : Int)) || decide (bAt d (i : Int) > (57 : Int)))
      · simp only [Bool.or_eq_false_iff, decide_eq_false_iff_not] at hc
        simp only [cond_false]
        rw [if_pos ⟨by omega, by omega⟩]
        have hb : IntKind.u8.wrap (bAt d (i : Int) - 48) = bAt d (i : Int) - 48 := u8_id (by omega) (by omega)
        rw [hb, wrap_id (i := bAt d (i : Int) - 48) (by omega) (by omega), wrap_id (i := 10 * n) (by omega) (by omega), wrap_id (i := 10 * nR) (by omega) (by omega), wrap_id (i := 10 * n + (bAt d (i : Int) - 48)) (by omega) (by omega), wrap_id (i := 10 * nR + (bAt d (i : Int) - 48)) (by omega) (by omega), wrap_id (i := (i : Int) + 1) (by omega) (by omega)]
        rw [show (i : Int) + 1 = ((i + 1 : Nat) : Int) by omega]
        have hm : ∃ m, (if 2000000000000 < 10 * nR + (bAt d (i : Int) - 48) then 2000000000000 else 10 * nR + (bAt d (i : Int) - 48)) = m ∧ 0 ≤ m ∧ m ≤ 2000000000000 ∧ (10 * nR + (bAt d (i : Int) - 48) ≤ 2000000000000 → m = 10 * nR + (bAt d (i : Int) - 48)) ∧ (2000000000000 < 10 * nR + (bAt d (i : Int) - 48) → m = 2000000000000) := by
          refine ⟨_, rfl, ?_⟩
          split <;> omega
        obtain ⟨m, hm, m0, m1, m2, m3⟩ := hm
        rw [hm]
        cases hg : decide (10 * n + (bAt d (i : Int) - 48) > 1000000000000)
        · simp only [decide_eq_false_iff_not] at hg
          simp only [cond_false]
          exact loopN k s d neg hneg hd j (i + 1) _ _ g (by omega) (by omega) (by omega) (by omega) m0 m1 (fun e => by have := h4 e; omega) (fun e => by have := h5 e; omega)
        · simp only [decide_eq_true_eq] at hg
          simp only [cond_true]
          exact loopN k s d neg hneg hd j (i + 1) _ _ true (by omega) (by omega) (by omega) (by omega) m0 m1 (fun e => by cases e) (fun e => by
            cases g with
            | false => have := h4 rfl; omega
            | true => have := h5 rfl; omega)
      · simp only [cond_true]
        exact ⟨_, rfl, rfl⟩
    · have e1 : decide ((i : Int) < (d.size : Int)) = false := decide_eq_false (by omega)
      rw [e1]
      simp only [cond_false]
      cases g with
      | true =>
        have := h5 rfl
        rw [decide_eq_true (by omega : nR > 1000000000000)]
        exact ⟨_, rfl, rfl⟩
      | false =>
        have := h4 rfl
        subst this
        rw [decide_eq_false (by omega : ¬ n > 1000000000000), hneg]
        cases neg <;> exact ⟨_, rfl, rfl⟩
end Go.AM
namespace Go.AM
open Go Go.Proofs
def ng (s : ByteArray) : Bool := (!s.toList == (ByteArray.mk #[]).toList && bAt s (0 : Int) == (45 : Int))
theorem u45 (b : UInt8) : (b == 45) = (((b.toNat : Nat) : Int) == 45) := by
  rw [Bool.eq_iff_iff, beq_iff_eq, beq_iff_eq]
  constructor
  · intro h; subst h; rfl
  · intro h
    apply UInt8.toNat_inj.1
    have : b.toNat = 45 := by omega
    rw [this]; rfl
theorem neg_eq (s : ByteArray) : (decide ((↑s.size : Int) ≥ (↑(ByteArray.mk #[45]).size : Int)) && (s.extract (Int.toNat 0) (↑(ByteArray.mk #[45]).size : Int).toNat).toList == (ByteArray.mk #[45]).toList) = ng s := by
  unfold ng
  rw [tl_data, tl_data, tl_data, tl_data]
  obtain ⟨⟨l⟩⟩ := s
  cases l with
  | nil => rfl
  | cons b l =>
    have h : (⟨⟨b :: l⟩⟩ : ByteArray).size = l.length + 1 := by simp [ByteArray.size]
    have h2 : ((⟨⟨b :: l⟩⟩ : ByteArray).extract 0 1).data.toList = [b] := by
      rw [ByteArray.data_extract]; simp
    have h3 : (ByteArray.mk #[45]).size = 1 := rfl
    rw [h3, h]
    rw [show ((1 : Nat) : Int).toNat = 1 from rfl, show Int.toNat 0 = 0 from rfl, h2]
    rw [decide_eq_true (by omega)]
    have h4 : bAt ⟨⟨b :: l⟩⟩ 0 = (b.toNat : Int) := rfl
    rw [h4, ← u45]
    simp
theorem if_some {α β : Type} (x : α) (a b : β) : (if (some x).isSome = true then a else b) = a := rfl
theorem f37_s (k : Nat) (s : ByteArray) : f37 k s (ByteArray.mk #[45]) = some (bif ng s then (s.extract 1 s.size, true) else (s, false)) := by
  have e40 : f40 k s (ByteArray.mk #[45]) = some (ng s) := by
    unfold f40
    rw [neg_eq, if_pos ⟨fun _ => by omega, fun _ => by omega, fun h => by simpa using h⟩]
  have v40e : v40 k s (ByteArray.mk #[45]) = ng s := by unfold v40; rw [e40]; rfl
  have e52 : f52 k s (ByteArray.mk #[45]) = some (bif ng s then (s.extract 1 s.size, true) else (s, false)) := by
    unfold f52
    rw [e40, v40e, if_some]
    cases hn : ng s
    · rfl
    · have hs : 1 ≤ s.size := by
        rw [← neg_eq] at hn
        simp only [Bool.and_eq_true, decide_eq_true_eq] at hn
        have h3 : (ByteArray.mk #[45]).size = 1 := rfl
        rw [h3] at hn; omega
      have h3 : (ByteArray.mk #[45]).size = 1 := rfl
      simp only [h3, Bool.not_true, cond_false, cond_true]
      rw [if_pos ⟨by omega, by omega, by omega⟩]
      rfl
  have v52e : v52 k s (ByteArray.mk #[45]) = (bif ng s then (s.extract 1 s.size, true) else (s, false)) := by unfold v52; rw [e52]; rfl
  unfold f37
  rw [e52, v52e, if_some]
end Go.AM
namespace Go.AM
open Go Go.Proofs Go.Lib

/-! ### replacing one byte -/
def sub1 (c : UInt8) (new : List UInt8) (l : List UInt8) : List UInt8 := l.flatMap fun b => if b = c then new else [b]
theorem pre1 (c b : UInt8) (l : List UInt8) : [c].isPrefixOf (b :: l) = (c == b) := by simp [List.isPrefixOf]
theorem idx1 (c b : UInt8) (l : List UInt8) : index (b :: l) [c] = if (c == b) = true then 0 else if (index l [c] == -1) = true then -1 else index l [c] + 1 := by
  rw [index, pre1]
theorem rep1 (c : UInt8) (new : List UInt8) : ∀ l : List UInt8, replaceK [c] new (count l [c]) l = sub1 c new l
  | [] => by
    rw [count_miss (s := []) (sub := [c]) (by simp [index])]; rfl
  | b :: l => by
    have ih := rep1 c new l
    have hb := idx1 c b l
    by_cases e : c = b
    · subst e
      rw [if_pos (by simp)] at hb
      have h := count_hit (s := c :: l) (sub := [c]) (i := 0) (by simp) (by simpa using hb)
      rw [h, Nat.add_comm, replaceK_hit _ _ _ _ 0 (by simpa using hb)]
      simp only [List.take_zero, List.nil_append, Nat.zero_add, List.length_singleton, List.drop_succ_cons, List.drop_zero] at ih ⊢
      rw [ih]; simp [sub1]
    · rw [if_neg (by simpa using e)] at hb
      have hs : sub1 c new (b :: l) = b :: sub1 c new l := by
        rw [sub1, List.flatMap_cons, if_neg (fun h => e h.symm)]; rfl
      by_cases hi : index l [c] = -1
      · rw [if_pos (by simpa using hi)] at hb
        rw [count_miss hi] at ih
        rw [count_miss hb, hs, ← ih]; rfl
      · rw [if_neg (by simpa using hi)] at hb
        have hge := index_ge l [c]
        obtain ⟨i, hii⟩ : ∃ i : Nat, index l [c] = i := ⟨(index l [c]).toNat, by omega⟩
        have h1 := count_hit (s := l) (sub := [c]) (i := i) (by simp) hii
        have h2 := count_hit (s := b :: l) (sub := [c]) (i := i + 1) (by simp) (by rw [hb, hii]; simp)
        rw [h1, Nat.add_comm, replaceK_hit _ _ _ _ i hii] at ih
        rw [h2, Nat.add_comm 1, replaceK_hit _ _ _ _ (i + 1) (by rw [hb, hii]; simp), hs, ← ih]
        simp
theorem replaceAll1 (c : UInt8) (new l : List UInt8) (h : [c] ≠ new) : replaceAll l [c] new = sub1 c new l := by
  rw [← rep1]
  unfold replaceAll replace
  rw [if_neg (by simpa using h)]
  unfold replaceNum
  rw [if_pos (by omega)]

/-! ### one byte of several -/
theorem indexAny_any (chars : List UInt8) : ∀ l : List UInt8, containsAny l chars = l.any fun b => chars.contains b
  | [] => rfl
  | b :: l => by
    have ih := indexAny_any chars l
    have hge := indexAny_ge chars l
    unfold containsAny at ih ⊢
    rw [indexAny, List.any_cons]
    cases hc : chars.contains b
    · rw [Bool.false_or, ← ih, if_neg (by simp)]
      by_cases hi : indexAny l chars = -1
      · rw [if_pos (by simpa using hi), hi]
      · rw [if_neg (by simpa using hi)]
        rw [decide_eq_true (by omega), decide_eq_true (by omega)]
    · rw [if_pos rfl]; rfl
end Go.AM
namespace Go.AM
open Go Go.Proofs
set_option linter.unusedVariables false
noncomputable section
/-! ### function 49: papermill/papermillref07.has -/
def K49 (k : Nat) : Calld := ⟨fun g => match g with
  | _ => none, fun g xs _ => match g with
  | _ => none⟩
abbrev R49 : Type := Bool
def res49 (r : R49) : AV := .r (.v (.bool r))
def bo49 (r : R49) : List (Nat × Blk) := []
def st49_2 (x0 : ByteArray) (x1 : Int) (x2 : Int) : St := ⟨mkS 17 [(0, .r (.v (.string x0))), (1, .r (.v (.int .u8 x1))), (5, .r (.v (.int .i64 x2)))], []⟩
def f49_2 (k : Nat) : Nat → ByteArray → Int → Int → Option R49
  | 0, _, _, _ => none
  | j + 1, x0, x1, x2 =>
    bif (decide (x2 < (↑x0.size : Int))) then
      if ((0 : Int) ≤ x2) ∧ (x2 < (↑x0.size : Int)) then
        bif (bAt x0 x2 == x1) then
          some true
        else
          f49_2 k j x0 x1 ((IntKind.i64.wrap (x2 + 1)))
      else none
    else
      some false
def f49 (k : Nat) (s_ : ByteArray) (c_ : Int) : Option R49 :=
  f49_2 k k s_ c_ 0
def args49 (s_ : ByteArray) (c_ : Int) : List AV := [.r (.v (.string s_)), .r (.v (.int .u8 c_))]
def v49 (k : Nat) (s_ : ByteArray) (c_ : Int) : R49 := (f49 k s_ c_).getD false
theorem ev49 (k : Nat) : ∀ j, (∀ (x0 : ByteArray) (x1 : Int) (x2 : Int) (r : R49), f49_2 k j x0 x1 x2 = some r → Ev Tryd.prog Tryd.f49 0 (placeAt Tryd.f49 2) (st49_2 x0 x1 x2) (res49 r) (bo49 r))
  | 0 => by
    intros; rename_i h; simp [f49_2] at h
  | j + 1 => by
    have ih := ev49 k j
    · intro x0 x1 x2 r h
      rw [f49_2] at h
      refine Ev.tree hm (R := Rt) (K := (K49 k)) (l := []) (C := [(2, [.auto [0, 1, 5] false])]) (E := [.auto [4] true]) (n := 1000) (T := .test ((decide (x2 < (↑x0.size : Int)))) (.need [(0 : Int) ≤ x2, x2 < (↑x0.size : Int)] (.test ((bAt x0 x2 == x1)) (.leaf (res49 true) (bo49 true)) (.cut 2 (placeAt Tryd.f49 2) (st49_2 x0 x1 ((IntKind.i64.wrap (x2 + 1))))))) (.leaf (res49 false) (bo49 false))) (by kernel_rfl) ?_
      refine ⟨fun c => ?_, fun c => ?_⟩
      · rw [cond_t c] at h
        by_cases q : ((0 : Int) ≤ x2) ∧ (x2 < (↑x0.size : Int))
        · rw [if_pos q] at h
          refine ⟨(conjC q.1 (conjC q.2 conj0)), ?_⟩
          refine ⟨fun c => ?_, fun c => ?_⟩
          · rw [cond_t c] at h
            cases h; exact ⟨rfl, rfl⟩
          · rw [cond_f c] at h
            exact ih x0 x1 ((IntKind.i64.wrap (x2 + 1))) _ h
        · rw [if_neg q] at h; cases h
      · rw [cond_f c] at h
        cases h; exact ⟨rfl, rfl⟩
theorem of49 (k : Nat) (s_ : ByteArray) (c_ : Int) (r : R49) (h : f49 k s_ c_ = some r) : CC Tryd.prog 49 (args49 s_ c_) [] (res49 r) (bo49 r) := by
  refine CC.of (fn := Tryd.f49) (by kernel_rfl) (by kernel_rfl) (by kernel_rfl) (by kernel_rfl) ?_
  unfold f49 at h
  refine Ev.tree hm (R := Rt) (K := (K49 k)) (l := []) (C := [(2, [.auto [0, 1, 5] false])]) (E := [.auto [4] true]) (n := 1000) (T := .cut 2 (placeAt Tryd.f49 2) (st49_2 s_ c_ 0)) (by kernel_rfl) ?_
  exact (ev49 k k) s_ c_ 0 _ h
theorem cc49 (k : Nat) (s_ : ByteArray) (c_ : Int) (h : (f49 k s_ c_).isSome = true) : CC Tryd.prog 49 (args49 s_ c_) [] (res49 (v49 k s_ c_)) (bo49 (v49 k s_ c_)) := by
  cases e : f49 k s_ c_ with
  | none => rw [e] at h; cases h
  | some r => rw [show v49 k s_ c_ = r by simp [v49, e]]; exact of49 k s_ c_ r e

end
end Go.AM
namespace Go.AM
open Go Go.Proofs
set_option linter.unusedVariables false
noncomputable section
/-! ### function 32: papermill/papermillref07.form -/
def K32 (k : Nat) : Calld := ⟨fun g => match g with
  | 49 => some [false, false]
  | _ => none, fun g xs _ => match g with
  | 49 => match xs with
    | [.r (.v (.string s_)), .r (.v (.int .u8 c_))] => some (res49 (v49 k s_ c_), bo49 (v49 k s_ c_))
    | _ => none
  | _ => none⟩
abbrev R32 : Type := ByteArray
def res32 (r : R32) : AV := .r (.v (.string r))
def bo32 (r : R32) : List (Nat × Blk) := []
def st32_5 (x0 : ByteArray) (x1 : ByteArray) (x2 : Int) : St := ⟨mkS 50 [(0, .r (.v (.string x0))), (3, .r (.v (.string x1))), (4, .r (.v (.int .i64 x2)))], []⟩
def f32_5 (k : Nat) : Nat → ByteArray → ByteArray → Int → Option R32
  | 0, _, _, _ => none
  | j + 1, x0, x1, x2 =>
    bif (decide (x2 < (↑x0.size : Int))) then
      if ((0 : Int) ≤ x2) ∧ (x2 < (↑x0.size : Int)) ∧ ((bAt x0 x2 == (34 : Int)) = false → (0 : Int) ≤ x2) ∧ ((bAt x0 x2 == (34 : Int)) = false → x2 < (↑x0.size : Int)) then
        bif (bAt x0 x2 == (34 : Int) || bAt x0 x2 == (92 : Int)) then
          if ((↑ (x1.size + (ByteArray.mk #[(92 : UInt8)]).size) : Int) ≤ IntKind.i64.max) then
            if ((0 : Int) ≤ x2) ∧ (x2 ≤ IntKind.i64.wrap (x2 + (1 : Int))) ∧ (IntKind.i64.wrap (x2 + (1 : Int)) ≤ (↑x0.size : Int)) ∧ ((↑ ((x1 ++ (ByteArray.mk #[(92 : UInt8)])).size + (x0.extract x2.toNat (IntKind.i64.wrap (x2 + (1 : Int))).toNat).size) : Int) ≤ IntKind.i64.max) then
              f32_5 k j x0 ((x1 ++ (ByteArray.mk #[92]) ++ x0.extract x2.toNat (IntKind.i64.wrap (x2 + 1)).toNat)) ((IntKind.i64.wrap (x2 + 1)))
            else none
          else none
        else
          if ((0 : Int) ≤ x2) ∧ (x2 ≤ IntKind.i64.wrap (x2 + (1 : Int))) ∧ (IntKind.i64.wrap (x2 + (1 : Int)) ≤ (↑x0.size : Int)) ∧ ((↑ (x1.size + (x0.extract x2.toNat (IntKind.i64.wrap (x2 + (1 : Int))).toNat).size) : Int) ≤ IntKind.i64.max) then
            f32_5 k j x0 ((x1 ++ x0.extract x2.toNat (IntKind.i64.wrap (x2 + 1)).toNat)) ((IntKind.i64.wrap (x2 + 1)))
          else none
      else none
    else
      if ((↑ (x1.size + (ByteArray.mk #[(34 : UInt8)]).size) : Int) ≤ IntKind.i64.max) then
        some (x1 ++ (ByteArray.mk #[34]))
      else none
def f32 (k : Nat) (s_ : ByteArray) : Option R32 :=
  bif (!s_.toList == (ByteArray.mk #[]).toList) then
    bif (true && !v49 k s_ (32 : Int)) then
      bif (true && !v49 k s_ (34 : Int)) then
        if ((!s_.toList == (ByteArray.mk #[]).toList) = true) ∧ ((f49 k s_ 32).isSome = true) ∧ ((true && !v49 k s_ (32 : Int)) = true) ∧ ((f49 k s_ 34).isSome = true) ∧ ((true && !v49 k s_ (34 : Int)) = true) ∧ ((f49 k s_ 92).isSome = true) then
          bif (true && !v49 k s_ (92 : Int)) then
            some s_
          else
            f32_5 k k s_ ((ByteArray.mk #[34])) 0
        else none
      else
        if ((!s_.toList == (ByteArray.mk #[]).toList) = true) ∧ ((f49 k s_ 32).isSome = true) ∧ ((true && !v49 k s_ (32 : Int)) = true) ∧ ((f49 k s_ 34).isSome = true) ∧ ((true && !v49 k s_ (34 : Int)) = false) then
          f32_5 k k s_ ((ByteArray.mk #[34])) 0
        else none
    else
      if ((!s_.toList == (ByteArray.mk #[]).toList) = true) ∧ ((f49 k s_ 32).isSome = true) ∧ ((true && !v49 k s_ (32 : Int)) = false) ∧ (false = false) then
        f32_5 k k s_ ((ByteArray.mk #[34])) 0
      else none
  else
    if ((!s_.toList == (ByteArray.mk #[]).toList) = false) ∧ (false = false) ∧ (false = false) then
      f32_5 k k s_ ((ByteArray.mk #[34])) 0
    else none
def args32 (s_ : ByteArray) : List AV := [.r (.v (.string s_))]
def v32 (k : Nat) (s_ : ByteArray) : R32 := (f32 k s_).getD ByteArray.empty
theorem ev32 (k : Nat) : ∀ j, (∀ (x0 : ByteArray) (x1 : ByteArray) (x2 : Int) (r : R32), f32_5 k j x0 x1 x2 = some r → Ev Tryd.prog Tryd.f32 0 (placeAt Tryd.f32 5) (st32_5 x0 x1 x2) (res32 r) (bo32 r))
  | 0 => by
    intros; rename_i h; simp [f32_5] at h
  | j + 1 => by
    have ih := ev32 k j
    · intro x0 x1 x2 r h
      rw [f32_5] at h
      refine Ev.tree hm (R := Rt) (K := (K32 k)) (l := []) (C := [(5, [.auto [0, 3, 4] false])]) (E := [.auto [2] true]) (n := 1000) (T := .test ((decide (x2 < (↑x0.size : Int)))) (.need [(0 : Int) ≤ x2, x2 < (↑x0.size : Int), (bAt x0 x2 == (34 : Int)) = false → (0 : Int) ≤ x2, (bAt x0 x2 == (34 : Int)) = false → x2 < (↑x0.size : Int)] (.test ((bAt x0 x2 == (34 : Int) || bAt x0 x2 == (92 : Int))) (.need [(↑ (x1.size + (ByteArray.mk #[(92 : UInt8)]).size) : Int) ≤ IntKind.i64.max] (.need [(0 : Int) ≤ x2, x2 ≤ IntKind.i64.wrap (x2 + (1 : Int)), IntKind.i64.wrap (x2 + (1 : Int)) ≤ (↑x0.size : Int), (↑ ((x1 ++ (ByteArray.mk #[(92 : UInt8)])).size + (x0.extract x2.toNat (IntKind.i64.wrap (x2 + (1 : Int))).toNat).size) : Int) ≤ IntKind.i64.max] (.cut 5 (placeAt Tryd.f32 5) (st32_5 x0 ((x1 ++ (ByteArray.mk #[92]) ++ x0.extract x2.toNat (IntKind.i64.wrap (x2 + 1)).toNat)) ((IntKind.i64.wrap (x2 + 1))))))) (.need [(0 : Int) ≤ x2, x2 ≤ IntKind.i64.wrap (x2 + (1 : Int)), IntKind.i64.wrap (x2 + (1 : Int)) ≤ (↑x0.size : Int), (↑ (x1.size + (x0.extract x2.toNat (IntKind.i64.wrap (x2 + (1 : Int))).toNat).size) : Int) ≤ IntKind.i64.max] (.cut 5 (placeAt Tryd.f32 5) (st32_5 x0 ((x1 ++ x0.extract x2.toNat (IntKind.i64.wrap (x2 + 1)).toNat)) ((IntKind.i64.wrap (x2 + 1)))))))) (.need [(↑ (x1.size + (ByteArray.mk #[(34 : UInt8)]).size) : Int) ≤ IntKind.i64.max] (.leaf (res32 (x1 ++ (ByteArray.mk #[34]))) (bo32 (x1 ++ (ByteArray.mk #[34])))))) (by kernel_rfl) ?_
      refine ⟨fun c => ?_, fun c => ?_⟩
      · rw [cond_t c] at h
        by_cases q : ((0 : Int) ≤ x2) ∧ (x2 < (↑x0.size : Int)) ∧ ((bAt x0 x2 == (34 : Int)) = false → (0 : Int) ≤ x2) ∧ ((bAt x0 x2 == (34 : Int)) = false → x2 < (↑x0.size : Int))
        · rw [if_pos q] at h
          refine ⟨(conjC q.1 (conjC q.2.1 (conjC q.2.2.1 (conjC q.2.2.2 conj0)))), ?_⟩
          refine ⟨fun c => ?_, fun c => ?_⟩
          · rw [cond_t c] at h
            by_cases q : ((↑ (x1.size + (ByteArray.mk #[(92 : UInt8)]).size) : Int) ≤ IntKind.i64.max)
            · rw [if_pos q] at h
              refine ⟨(conjC q conj0), ?_⟩
              by_cases q : ((0 : Int) ≤ x2) ∧ (x2 ≤ IntKind.i64.wrap (x2 + (1 : Int))) ∧ (IntKind.i64.wrap (x2 + (1 : Int)) ≤ (↑x0.size : Int)) ∧ ((↑ ((x1 ++ (ByteArray.mk #[(92 : UInt8)])).size + (x0.extract x2.toNat (IntKind.i64.wrap (x2 + (1 : Int))).toNat).size) : Int) ≤ IntKind.i64.max)
              · rw [if_pos q] at h
                refine ⟨(conjC q.1 (conjC q.2.1 (conjC q.2.2.1 (conjC q.2.2.2 conj0)))), ?_⟩
                exact ih x0 ((x1 ++ (ByteArray.mk #[92]) ++ x0.extract x2.toNat (IntKind.i64.wrap (x2 + 1)).toNat)) ((IntKind.i64.wrap (x2 + 1))) _ h
              · rw [if_neg q] at h; cases h
            · rw [if_neg q] at h; cases h
          · rw [cond_f c] at h
            by_cases q : ((0 : Int) ≤ x2) ∧ (x2 ≤ IntKind.i64.wrap (x2 + (1 : Int))) ∧ (IntKind.i64.wrap (x2 + (1 : Int)) ≤ (↑x0.size : Int)) ∧ ((↑ (x1.size + (x0.extract x2.toNat (IntKind.i64.wrap (x2 + (1 : Int))).toNat).size) : Int) ≤ IntKind.i64.max)
            · rw [if_pos q] at h
              refine ⟨(conjC q.1 (conjC q.2.1 (conjC q.2.2.1 (conjC q.2.2.2 conj0)))), ?_⟩
              exact ih x0 ((x1 ++ x0.extract x2.toNat (IntKind.i64.wrap (x2 + 1)).toNat)) ((IntKind.i64.wrap (x2 + 1))) _ h
            · rw [if_neg q] at h; cases h
        · rw [if_neg q] at h; cases h
      · rw [cond_f c] at h
        by_cases q : ((↑ (x1.size + (ByteArray.mk #[(34 : UInt8)]).size) : Int) ≤ IntKind.i64.max)
        · rw [if_pos q] at h
          refine ⟨(conjC q conj0), ?_⟩
          cases h; exact ⟨rfl, rfl⟩
        · rw [if_neg q] at h; cases h
theorem of32 (k : Nat) (s_ : ByteArray) (r : R32) (h : f32 k s_ = some r) : CC Tryd.prog 32 (args32 s_) [] (res32 r) (bo32 r) := by
  refine CC.of (fn := Tryd.f32) (by kernel_rfl) (by kernel_rfl) (by kernel_rfl) (by kernel_rfl) ?_
  unfold f32 at h
  refine Ev.tree hm (R := Rt) (K := (K32 k)) (l := []) (C := [(5, [.auto [0, 3, 4] false])]) (E := [.auto [2] true]) (n := 1000) (T := .test ((!s_.toList == (ByteArray.mk #[]).toList)) (.test ((true && !v49 k s_ (32 : Int))) (.test ((true && !v49 k s_ (34 : Int))) (.need [(!s_.toList == (ByteArray.mk #[]).toList) = true, CC Tryd.prog 49 (args49 s_ 32) [] (res49 (v49 k s_ 32)) (bo49 (v49 k s_ 32)), (true && !v49 k s_ (32 : Int)) = true, CC Tryd.prog 49 (args49 s_ 34) [] (res49 (v49 k s_ 34)) (bo49 (v49 k s_ 34)), (true && !v49 k s_ (34 : Int)) = true, CC Tryd.prog 49 (args49 s_ 92) [] (res49 (v49 k s_ 92)) (bo49 (v49 k s_ 92))] (.test ((true && !v49 k s_ (92 : Int))) (.leaf (res32 s_) (bo32 s_)) (.cut 5 (placeAt Tryd.f32 5) (st32_5 s_ ((ByteArray.mk #[34])) 0)))) (.need [(!s_.toList == (ByteArray.mk #[]).toList) = true, CC Tryd.prog 49 (args49 s_ 32) [] (res49 (v49 k s_ 32)) (bo49 (v49 k s_ 32)), (true && !v49 k s_ (32 : Int)) = true, CC Tryd.prog 49 (args49 s_ 34) [] (res49 (v49 k s_ 34)) (bo49 (v49 k s_ 34)), (true && !v49 k s_ (34 : Int)) = false] (.test (false) (.leaf (res32 s_) (bo32 s_)) (.cut 5 (placeAt Tryd.f32 5) (st32_5 s_ ((ByteArray.mk #[34])) 0))))) (.test (false) (.need [(!s_.toList == (ByteArray.mk #[]).toList) = true, CC Tryd.prog 49 (args49 s_ 32) [] (res49 (v49 k s_ 32)) (bo49 (v49 k s_ 32)), (true && !v49 k s_ (32 : Int)) = false, false = true, CC Tryd.prog 49 (args49 s_ 92) [] (res49 (v49 k s_ 92)) (bo49 (v49 k s_ 92))] (.test ((true && !v49 k s_ (92 : Int))) (.leaf (res32 s_) (bo32 s_)) (.cut 5 (placeAt Tryd.f32 5) (st32_5 s_ ((ByteArray.mk #[34])) 0)))) (.need [(!s_.toList == (ByteArray.mk #[]).toList) = true, CC Tryd.prog 49 (args49 s_ 32) [] (res49 (v49 k s_ 32)) (bo49 (v49 k s_ 32)), (true && !v49 k s_ (32 : Int)) = false, false = false] (.test (false) (.leaf (res32 s_) (bo32 s_)) (.cut 5 (placeAt Tryd.f32 5) (st32_5 s_ ((ByteArray.mk #[34])) 0)))))) (.test (false) (.test ((true && !v49 k s_ (34 : Int))) (.need [(!s_.toList == (ByteArray.mk #[]).toList) = false, false = true, CC Tryd.prog 49 (args49 s_ 34) [] (res49 (v49 k s_ 34)) (bo49 (v49 k s_ 34)), (true && !v49 k s_ (34 : Int)) = true, CC Tryd.prog 49 (args49 s_ 92) [] (res49 (v49 k s_ 92)) (bo49 (v49 k s_ 92))] (.test ((true && !v49 k s_ (92 : Int))) (.leaf (res32 s_) (bo32 s_)) (.cut 5 (placeAt Tryd.f32 5) (st32_5 s_ ((ByteArray.mk #[34])) 0)))) (.need [(!s_.toList == (ByteArray.mk #[]).toList) = false, false = true, CC Tryd.prog 49 (args49 s_ 34) [] (res49 (v49 k s_ 34)) (bo49 (v49 k s_ 34)), (true && !v49 k s_ (34 : Int)) = false] (.test (false) (.leaf (res32 s_) (bo32 s_)) (.cut 5 (placeAt Tryd.f32 5) (st32_5 s_ ((ByteArray.mk #[34])) 0))))) (.test (false) (.need [(!s_.toList == (ByteArray.mk #[]).toList) = false, false = false, false = true, CC Tryd.prog 49 (args49 s_ 92) [] (res49 (v49 k s_ 92)) (bo49 (v49 k s_ 92))] (.test ((true && !v49 k s_ (92 : Int))) (.leaf (res32 s_) (bo32 s_)) (.cut 5 (placeAt Tryd.f32 5) (st32_5 s_ ((ByteArray.mk #[34])) 0)))) (.need [(!s_.toList == (ByteArray.mk #[]).toList) = false, false = false, false = false] (.test (false) (.leaf (res32 s_) (bo32 s_)) (.cut 5 (placeAt Tryd.f32 5) (st32_5 s_ ((ByteArray.mk #[34])) 0))))))) (by kernel_rfl) ?_
  refine ⟨fun c => ?_, fun c => ?_⟩
  · rw [cond_t c] at h
    refine ⟨fun c => ?_, fun c => ?_⟩
    · rw [cond_t c] at h
      refine ⟨fun c => ?_, fun c => ?_⟩
      · rw [cond_t c] at h
        by_cases q : ((!s_.toList == (ByteArray.mk #[]).toList) = true) ∧ ((f49 k s_ 32).isSome = true) ∧ ((true && !v49 k s_ (32 : Int)) = true) ∧ ((f49 k s_ 34).isSome = true) ∧ ((true && !v49 k s_ (34 : Int)) = true) ∧ ((f49 k s_ 92).isSome = true)
        · rw [if_pos q] at h
          refine ⟨(conjC q.1 (conjC (cc49 k s_ 32 q.2.1) (conjC q.2.2.1 (conjC (cc49 k s_ 34 q.2.2.2.1) (conjC q.2.2.2.2.1 (conjC (cc49 k s_ 92 q.2.2.2.2.2) conj0)))))), ?_⟩
          refine ⟨fun c => ?_, fun c => ?_⟩
          · rw [cond_t c] at h
            cases h; exact ⟨rfl, rfl⟩
          · rw [cond_f c] at h
            exact (ev32 k k) s_ ((ByteArray.mk #[34])) 0 _ h
        · rw [if_neg q] at h; cases h
      · rw [cond_f c] at h
        by_cases q : ((!s_.toList == (ByteArray.mk #[]).toList) = true) ∧ ((f49 k s_ 32).isSome = true) ∧ ((true && !v49 k s_ (32 : Int)) = true) ∧ ((f49 k s_ 34).isSome = true) ∧ ((true && !v49 k s_ (34 : Int)) = false)
        · rw [if_pos q] at h
          refine ⟨(conjC q.1 (conjC (cc49 k s_ 32 q.2.1) (conjC q.2.2.1 (conjC (cc49 k s_ 34 q.2.2.2.1) (conjC q.2.2.2.2 conj0))))), ?_⟩
          refine ⟨fun c => ?_, fun c => ?_⟩
          · cases c
          exact (ev32 k k) s_ ((ByteArray.mk #[34])) 0 _ h
        · rw [if_neg q] at h; cases h
    · rw [cond_f c] at h
      refine ⟨fun c => ?_, fun c => ?_⟩
      · cases c
      by_cases q : ((!s_.toList == (ByteArray.mk #[]).toList) = true) ∧ ((f49 k s_ 32).isSome = true) ∧ ((true && !v49 k s_ (32 : Int)) = false) ∧ (false = false)
      · rw [if_pos q] at h
        refine ⟨(conjC q.1 (conjC (cc49 k s_ 32 q.2.1) (conjC q.2.2.1 (conjC q.2.2.2 conj0)))), ?_⟩
        refine ⟨fun c => ?_, fun c => ?_⟩
        · cases c
        exact (ev32 k k) s_ ((ByteArray.mk #[34])) 0 _ h
      · rw [if_neg q] at h; cases h
  · rw [cond_f c] at h
    refine ⟨fun c => ?_, fun c => ?_⟩
    · cases c
    refine ⟨fun c => ?_, fun c => ?_⟩
    · cases c
    by_cases q : ((!s_.toList == (ByteArray.mk #[]).toList) = false) ∧ (false = false) ∧ (false = false)
    · rw [if_pos q] at h
      refine ⟨(conjC q.1 (conjC q.2.1 (conjC q.2.2 conj0))), ?_⟩
      refine ⟨fun c => ?_, fun c => ?_⟩
      · cases c
      exact (ev32 k k) s_ ((ByteArray.mk #[34])) 0 _ h
    · rw [if_neg q] at h; cases h
theorem cc32 (k : Nat) (s_ : ByteArray) (h : (f32 k s_).isSome = true) : CC Tryd.prog 32 (args32 s_) [] (res32 (v32 k s_)) (bo32 (v32 k s_)) := by
  cases e : f32 k s_ with
  | none => rw [e] at h; cases h
  | some r => rw [show v32 k s_ = r by simp [v32, e]]; exact of32 k s_ r e

end
end Go.AM
namespace Go.AM
open Go Go.Proofs Go.Lib
attribute [local irreducible] KK

def okB (b : UInt8) : Bool := decide (32 ≤ b.toNat) && decide (b.toNat ≤ 126)
def chk (s : ByteArray) : Int := if 256 < s.size then 8 else if s.data.toList.all okB = true then 0 else 3
def qt (l : List UInt8) : Bool := l.isEmpty || l.any fun b => [32, 34, 92].contains b
def esc (l : List UInt8) : List UInt8 := l.flatMap fun b => if b = 34 ∨ b = 92 then [92, b] else [b]
def frm (s : ByteArray) : ByteArray := if qt s.data.toList = true then ⟨(34 :: esc s.data.toList ++ [34]).toArray⟩ else s

theorem bAt_get (s : ByteArray) (i : Nat) (b : UInt8) (h : s.data.toList[i]? = some b) : bAt s (i : Int) = (b.toNat : Int) := by
  unfold bAt
  rw [show ((i : Nat) : Int).toNat = i from rfl, List.getD_eq_getElem?_getD, h]; rfl
theorem size_len (s : ByteArray) : s.data.toList.length = s.size := rfl
theorem drop_at (s : ByteArray) (i : Nat) (h : i < s.size) : ∃ b, s.data.toList[i]? = some b ∧ s.data.toList.drop i = b :: s.data.toList.drop (i + 1) := by
  have h' : i < s.data.toList.length := h
  exact ⟨s.data.toList[i], by simp, by rw [List.drop_eq_getElem_cons h']⟩

theorem f29_l (k : Nat) (s : ByteArray) (hs : s.size ≤ 256) : ∀ (j i : Nat), i ≤ s.size → s.size - i < j →
    f29_4 k j s (s.size : Int) (i : Int) = some (if (s.data.toList.drop i).all okB = true then 0 else 3)
  | 0, i, _, h => by omega
  | j + 1, i, hi, hj => by
    unfold f29_4
    by_cases hlt : i < s.size
    · obtain ⟨b, hb, hd⟩ := drop_at s i hlt
      rw [decide_eq_true (by omega : (i : Int) < (s.size : Int)), hd, List.all_cons]
      simp only [cond_true]
      rw [if_pos ⟨by omega, by omega, fun _ => by omega, fun _ => by omega⟩, bAt_get s i b hb, wrapS i (by omega)]
      cases hc : okB b
      · have : (decide ((b.toNat : Int) < 32) || decide ((b.toNat : Int) > 126)) = true := by
          unfold okB at hc
          simp only [Bool.and_eq_false_iff, decide_eq_false_iff_not] at hc
          simp only [Bool.or_eq_true, decide_eq_true_eq]
          omega
        rw [this]
        simp
      · have : (decide ((b.toNat : Int) < 32) || decide ((b.toNat : Int) > 126)) = false := by
          unfold okB at hc
          simp only [Bool.and_eq_true, decide_eq_true_eq] at hc
          simp only [Bool.or_eq_false_iff, decide_eq_false_iff_not]
          omega
        rw [this]
        simp only [cond_false, Bool.true_and]
        exact f29_l k s hs j (i + 1) (by omega) (by omega)
    · have : s.data.toList.drop i = [] := List.drop_of_length_le (by rw [size_len]; omega)
      rw [decide_eq_false (by omega : ¬ (i : Int) < (s.size : Int)), this]
      simp
theorem f29_s (k : Nat) (hk : 300 ≤ k) (s : ByteArray) : f29 k s = some (chk s) := by
  unfold f29 chk
  by_cases h : 256 < s.size
  · rw [decide_eq_true (by omega : (s.size : Int) > 256), if_pos h]; rfl
  · rw [decide_eq_false (by omega : ¬ (s.size : Int) > 256), if_neg h]
    simp only [cond_false]
    have := f29_l k s (by omega) k 0 (by omega) (by omega)
    rw [show ((0 : Nat) : Int) = 0 from rfl] at this
    rw [this]; rfl
theorem okB_asc {l : List UInt8} (h : l.all okB = true) : (l.all fun b => Nat.blt b.toNat 128) = true := by
  rw [List.all_eq_true] at h ⊢
  intro b hb
  have := h b hb
  unfold okB at this
  simp only [Bool.and_eq_true, decide_eq_true_eq] at this
  rw [Nat.blt_eq]; omega
theorem chk0 {s : ByteArray} (h : chk s = 0) : s.size ≤ 256 ∧ s.data.toList.all okB = true := by
  unfold chk at h
  split at h
  · cases h
  · split at h
    · exact ⟨by omega, by assumption⟩
    · cases h
theorem emp (s : ByteArray) : (s.toList == (ByteArray.mk #[]).toList) = s.data.toList.isEmpty := by
  rw [tl_data, tl_data]
  cases s.data.toList <;> rfl
theorem f47_s (k : Nat) (s : ByteArray) (h : chk s = 0) : f47 k s (ByteArray.mk #[32, 34, 92]) = some (s.data.toList.any fun b => [32, 34, 92].contains b) := by
  obtain ⟨h1, h2⟩ := chk0 h
  unfold f47
  rw [indexAny_any]
  have : (Nat.ble s.size 1000000000 && (Nat.ble (ByteArray.mk #[32, 34, 92]).size 1000000000 && (asc s && asc (ByteArray.mk #[32, 34, 92])))) = true := by
    simp only [Bool.and_eq_true, Nat.ble_eq]
    exact ⟨by omega, by decide, okB_asc h2, by decide⟩
  rw [this]; rfl
theorem f30_s (k : Nat) (s : ByteArray) (h : chk s = 0) : f30 k s = some (qt s.data.toList) := by
  have v : v47 k s (ByteArray.mk #[32, 34, 92]) = (s.data.toList.any fun b => [32, 34, 92].contains b) := by unfold v47; rw [f47_s k s h]; rfl
  unfold f30 qt
  rw [emp, f47_s k s h, v]
  cases s.data.toList.isEmpty
  · simp
  · simp
end Go.AM
namespace Go.AM
open Go Go.Proofs Go.Lib

theorem u_eq (b : UInt8) (c : Nat) (hc : c < 256) : (((b.toNat : Nat) : Int) == (c : Int)) = (b == UInt8.ofNat c) := by
  rw [Bool.eq_iff_iff, beq_iff_eq, beq_iff_eq]
  constructor
  · intro h
    apply UInt8.toNat_inj.1
    rw [UInt8.toNat_ofNat_of_lt' (by simpa using hc)]; omega
  · intro h; subst h
    rw [UInt8.toNat_ofNat_of_lt' (by simpa using hc)]

theorem esc_two : ∀ l : List UInt8, sub1 34 [92, 34] (sub1 92 [92, 92] l) = esc l
  | [] => rfl
  | b :: l => by
    have ih := esc_two l
    unfold sub1 esc at ih ⊢
    simp only [List.flatMap_cons, List.flatMap_append] at ih ⊢
    rw [ih]
    by_cases h1 : b = 92
    · subst h1; rfl
    · by_cases h2 : b = 34
      · subst h2; rfl
      · simp [h1, h2]
theorem sub1_len (c : UInt8) (a d : UInt8) : ∀ l : List UInt8, (sub1 c [a, d] l).length ≤ 2 * l.length
  | [] => by simp [sub1]
  | b :: l => by
    have := sub1_len c a d l
    unfold sub1 at this ⊢
    rw [List.flatMap_cons, List.length_append]
    split <;> simp only [List.length_cons, List.length_nil] <;> omega
theorem esc_len : ∀ l : List UInt8, (esc l).length ≤ 2 * l.length
  | [] => by simp [esc]
  | b :: l => by
    have := esc_len l
    unfold esc at this ⊢
    rw [List.flatMap_cons, List.length_append]
    split <;> simp only [List.length_cons, List.length_nil] <;> omega

theorem mkL_list (l : List UInt8) : (mkL l).data.toList = l := by simp [mkL]
theorem mkL_size (l : List UInt8) : (mkL l).size = l.length := by rw [← size_len, mkL_list]
theorem mkL_app (l m : List UInt8) : mkL l ++ mkL m = mkL (l ++ m) := by
  apply ByteArray.ext
  simp [mkL]
theorem of_list (s : ByteArray) : mkL s.data.toList = s := by
  apply ByteArray.ext
  simp [mkL]

theorem f31_a (k : Nat) (s : ByteArray) (hs : s.size ≤ 1000) : f31 k s (ByteArray.mk #[92]) (ByteArray.mk #[92, 92]) = some (mkL (sub1 92 [92, 92] s.data.toList)) := by
  unfold f31
  have : (Nat.ble s.size 10000000 && (Nat.ble 1 (ByteArray.mk #[92]).size && (Nat.ble (ByteArray.mk #[92]).size 100 && Nat.ble (ByteArray.mk #[92, 92]).size 100))) = true := by
    simp only [Bool.and_eq_true, Nat.ble_eq]
    exact ⟨by omega, by decide, by decide, by decide⟩
  rw [this, show (ByteArray.mk #[92]).data.toList = [92] from rfl, show (ByteArray.mk #[92, 92]).data.toList = [92, 92] from rfl, replaceAll1 92 [92, 92] _ (by decide)]
  rfl
theorem f31_b (k : Nat) (s : ByteArray) (hs : s.size ≤ 1000) : f31 k s (ByteArray.mk #[34]) (ByteArray.mk #[92, 34]) = some (mkL (sub1 34 [92, 34] s.data.toList)) := by
  unfold f31
  have : (Nat.ble s.size 10000000 && (Nat.ble 1 (ByteArray.mk #[34]).size && (Nat.ble (ByteArray.mk #[34]).size 100 && Nat.ble (ByteArray.mk #[92, 34]).size 100))) = true := by
    simp only [Bool.and_eq_true, Nat.ble_eq]
    exact ⟨by omega, by decide, by decide, by decide⟩
  rw [this, show (ByteArray.mk #[34]).data.toList = [34] from rfl, show (ByteArray.mk #[92, 34]).data.toList = [92, 34] from rfl, replaceAll1 34 [92, 34] _ (by decide)]
  rfl
theorem v31_a (k : Nat) (s : ByteArray) (hs : s.size ≤ 1000) : v31 k s (ByteArray.mk #[92]) (ByteArray.mk #[92, 92]) = mkL (sub1 92 [92, 92] s.data.toList) := by
  unfold v31; rw [f31_a k s hs]; rfl
theorem f31_c (k : Nat) (s : ByteArray) (hs : s.size ≤ 256) : f31 k (mkL (sub1 92 [92, 92] s.data.toList)) (ByteArray.mk #[34]) (ByteArray.mk #[92, 34]) = some (mkL (esc s.data.toList)) := by
  have := sub1_len 92 92 92 s.data.toList
  rw [size_len] at this
  rw [f31_b k _ (by rw [mkL_size]; omega), mkL_list, esc_two]
theorem v31_c (k : Nat) (s : ByteArray) (hs : s.size ≤ 256) : v31 k (mkL (sub1 92 [92, 92] s.data.toList)) (ByteArray.mk #[34]) (ByteArray.mk #[92, 34]) = mkL (esc s.data.toList) := by
  unfold v31; rw [f31_c k s hs]; rfl
theorem quo (l : List UInt8) : ByteArray.mk #[34] ++ mkL l ++ ByteArray.mk #[34] = mkL (34 :: l ++ [34]) := by
  rw [show ByteArray.mk #[34] = mkL [34] from rfl, mkL_app, mkL_app]; rfl

/-! ### the reference's form -/
theorem f49_l (k c : Nat) (hc : c < 256) (s : ByteArray) (hs : s.size ≤ 1000) : ∀ (j i : Nat), i ≤ s.size → s.size - i < j →
    f49_2 k j s (c : Int) (i : Int) = some ((s.data.toList.drop i).any fun b => b == UInt8.ofNat c)
  | 0, i, _, h => by omega
  | j + 1, i, hi, hj => by
    unfold f49_2
    by_cases hlt : i < s.size
    · obtain ⟨b, hb, hd⟩ := drop_at s i hlt
      rw [decide_eq_true (by omega : (i : Int) < (s.size : Int)), hd, List.any_cons]
      simp only [cond_true]
      rw [if_pos ⟨by omega, by omega⟩, bAt_get s i b hb, wrapS i (by omega), u_eq b c hc]
      cases b == UInt8.ofNat c
      · simp only [cond_false, Bool.false_or]
        exact f49_l k c hc s hs j (i + 1) (by omega) (by omega)
      · simp
    · have : s.data.toList.drop i = [] := List.drop_of_length_le (by rw [size_len]; omega)
      rw [decide_eq_false (by omega : ¬ (i : Int) < (s.size : Int)), this]
      simp
theorem f49_s (k c : Nat) (hk : 300 ≤ k) (hc : c < 256) (s : ByteArray) (hs : s.size ≤ 256) : f49 k s (c : Int) = some (s.data.toList.any fun b => b == UInt8.ofNat c) := by
  unfold f49
  have := f49_l k c hc s (by omega) k 0 (by omega) (by omega)
  rw [show ((0 : Nat) : Int) = 0 from rfl] at this
  rw [this]; rfl
theorem v49_s (k c : Nat) (hk : 300 ≤ k) (hc : c < 256) (s : ByteArray) (hs : s.size ≤ 256) : v49 k s (c : Int) = (s.data.toList.any fun b => b == UInt8.ofNat c) := by
  unfold v49; rw [f49_s k c hk hc s hs]; rfl
theorem ext1 (s : ByteArray) (i : Nat) (b : UInt8) (h : s.data.toList[i]? = some b) : s.extract i (i + 1) = mkL [b] := by
  rw [← of_list (s.extract i (i + 1))]
  congr 1
  rw [ByteArray.data_extract, Array.toList_extract, List.extract_eq_take_drop]
  have : i < s.data.toList.length := by
    rcases Nat.lt_or_ge i s.data.toList.length with h' | h'
    · exact h'
    · rw [List.getElem?_eq_none h'] at h; cases h
  rw [List.drop_eq_getElem_cons this, show i + 1 - i = 1 by omega]
  rw [List.getElem?_eq_getElem this] at h
  simp at h ⊢
  exact h
theorem hmx : IntKind.i64.max = 9223372036854775807 := rfl
theorem q34 (b : UInt8) : (((b.toNat : Nat) : Int) == (34 : Int)) = (b == 34) := u_eq b 34 (by omega)
theorem q92 (b : UInt8) : (((b.toNat : Nat) : Int) == (92 : Int)) = (b == 92) := u_eq b 92 (by omega)
theorem m92 : (ByteArray.mk #[92]) = mkL [92] := rfl
theorem m34 : (ByteArray.mk #[34]) = mkL [34] := rfl
theorem f32_l (k : Nat) (s : ByteArray) (hs : s.size ≤ 256) : ∀ (j i : Nat) (a : List UInt8), i ≤ s.size → s.size - i < j → a.length ≤ 1 + 2 * i →
    f32_5 k j s (mkL a) (i : Int) = some (mkL (a ++ esc (s.data.toList.drop i) ++ [34]))
  | 0, i, _, _, h, _ => by omega
  | j + 1, i, a, hi, hj, ha => by
    unfold f32_5
    by_cases hlt : i < s.size
    · obtain ⟨b, hb, hd⟩ := drop_at s i hlt
      rw [decide_eq_true (by omega : (i : Int) < (s.size : Int)), hd]
      simp only [cond_true]
      rw [if_pos ⟨by omega, by omega, fun _ => by omega, fun _ => by omega⟩, bAt_get s i b hb, wrapS i (by omega)]
      rw [show ((i : Nat) : Int).toNat = i from rfl, show ((i + 1 : Nat) : Int).toNat = i + 1 from rfl, ext1 s i b hb]
      rw [q34, q92, m92, mkL_app, mkL_app, mkL_app, mkL_size, mkL_size, mkL_size, mkL_size, hmx]
      have he : esc (b :: s.data.toList.drop (i + 1)) = (if b = 34 ∨ b = 92 then [92, b] else [b]) ++ esc (s.data.toList.drop (i + 1)) := by
        rw [esc, List.flatMap_cons]; rfl
      rw [he]
      cases hq : (b == 34 || b == 92)
      · have hn : ¬ (b = 34 ∨ b = 92) := by
          simpa using hq
        have hb4 : ((a.length + [b].length : Nat) : Int) ≤ 9223372036854775807 := by
          rw [List.length_singleton]; omega
        rw [cond_false, if_pos ⟨by omega, by omega, by omega, hb4⟩, if_neg hn]
        rw [f32_l k s hs j (i + 1) (a ++ [b]) (by omega) (by omega) (by simp only [List.length_append, List.length_cons, List.length_nil]; omega)]
        simp
      · have hn : (b = 34 ∨ b = 92) := by
          simpa using hq
        rw [cond_true]
        have hb1 : ((a.length + [(92 : UInt8)].length : Nat) : Int) ≤ 9223372036854775807 := by
          have : [(92 : UInt8)].length = 1 := rfl
          rw [this]; omega
        have hb3 : (((a ++ [92]).length + [b].length : Nat) : Int) ≤ 9223372036854775807 := by
          rw [List.length_append, List.length_singleton, List.length_singleton]; omega
        rw [if_pos hb1, if_pos ⟨by omega, by omega, by omega, hb3⟩, if_pos hn]
        rw [f32_l k s hs j (i + 1) (a ++ [92] ++ [b]) (by omega) (by omega) (by simp only [List.length_append, List.length_cons, List.length_nil]; omega)]
        simp
    · have : s.data.toList.drop i = [] := List.drop_of_length_le (by rw [size_len]; omega)
      rw [decide_eq_false (by omega : ¬ (i : Int) < (s.size : Int)), this]
      have hb2 : ((a.length + [(34 : UInt8)].length : Nat) : Int) ≤ 9223372036854775807 := by
        have : [(34 : UInt8)].length = 1 := rfl
        rw [this]; omega
      rw [cond_false, m34, mkL_app, mkL_size, mkL_size, hmx, if_pos hb2]
      simp [esc]
end Go.AM
namespace Go.AM
open Go Go.Proofs
set_option linter.unusedVariables false
noncomputable section
/-! ### function 15: papermill/papermillref07.Join -/
def K15 (k : Nat) : Calld := ⟨fun g => match g with
  | 32 => some [false]
  | _ => none, fun g xs _ => match g with
  | 32 => match xs with
    | [.r (.v (.string s_))] => some (res32 (v32 k s_), bo32 (v32 k s_))
    | _ => none
  | _ => none⟩
abbrev R15 : Type := ByteArray × Int
def res15 (r : R15) : AV := .tup [.r (.v (.string r.1)), .r (.v (.int .i64 r.2))]
def bo15 (r : R15) : List (Nat × Blk) := []
def st15_3 (x0 : List (RTy.str).T) (x1 : ByteArray) (x2 : Int) : St := ⟨mkS 66 [(0, .r (.ro RTy.str x0)), (4, .r (.v (.string x1))), (5, .r (.v (.int .i64 x2)))], []⟩
def st15_8 (x0 : List (RTy.str).T) (x1 : ByteArray) (x2 : Int) (x3 : Int) : St := ⟨mkS 66 [(0, .r (.ro RTy.str x0)), (4, .r (.v (.string x1))), (5, .r (.v (.int .i64 x2))), (6, .r (.v (.int .i64 x3)))], []⟩
def st15_13 (x0 : List (RTy.str).T) (x1 : ByteArray) (x2 : Int) : St := ⟨mkS 66 [(0, .r (.ro RTy.str x0)), (4, .r (.v (.string x1))), (7, .r (.v (.int .i64 x2)))], []⟩
mutual
def f15_3 (k : Nat) : Nat → List (RTy.str).T → ByteArray → Int → Option R15
  | 0, _, _, _ => none
  | j + 1, x0, x1, x2 =>
    bif (decide (x2 < (↑x0.length : Int))) then
      if ((0 : Int) ≤ x2) ∧ (x2 < (↑x0.length : Int)) then
        bif (decide ((↑ (ByteArray.size (x0.getD x2.toNat RTy.str.dflt)) : Int) > (256 : Int))) then
          some ((ByteArray.mk #[], 8))
        else
          f15_8 k j x0 x1 x2 0
      else none
    else
      f15_13 k j x0 x1 0
def f15_8 (k : Nat) : Nat → List (RTy.str).T → ByteArray → Int → Int → Option R15
  | 0, _, _, _, _ => none
  | j + 1, x0, x1, x2, x3 =>
    if ((0 : Int) ≤ x2) ∧ (x2 < (↑x0.length : Int)) then
      bif (decide (x3 < (↑ (ByteArray.size (x0.getD x2.toNat RTy.str.dflt)) : Int))) then
        if ((0 : Int) ≤ x2) ∧ (x2 < (↑x0.length : Int)) ∧ ((0 : Int) ≤ x3) ∧ (x3 < (↑ (ByteArray.size (x0.getD x2.toNat RTy.str.dflt)) : Int)) ∧ (decide (bAt (x0.getD x2.toNat RTy.str.dflt) x3 < (32 : Int)) = false → (0 : Int) ≤ x2) ∧ (decide (bAt (x0.getD x2.toNat RTy.str.dflt) x3 < (32 : Int)) = false → x2 < (↑x0.length : Int)) ∧ (decide (bAt (x0.getD x2.toNat RTy.str.dflt) x3 < (32 : Int)) = false → (0 : Int) ≤ x3) ∧ (decide (bAt (x0.getD x2.toNat RTy.str.dflt) x3 < (32 : Int)) = false → x3 < (↑ (ByteArray.size (x0.getD x2.toNat RTy.str.dflt)) : Int)) then
          bif (decide (bAt (x0.getD x2.toNat RTy.str.dflt) x3 < (32 : Int)) || decide (bAt (x0.getD x2.toNat RTy.str.dflt) x3 > (126 : Int))) then
            some ((ByteArray.mk #[], 3))
          else
            f15_8 k j x0 x1 x2 ((IntKind.i64.wrap (x3 + 1)))
        else none
      else
        f15_3 k j x0 x1 ((IntKind.i64.wrap (x2 + 1)))
    else none
def f15_13 (k : Nat) : Nat → List (RTy.str).T → ByteArray → Int → Option R15
  | 0, _, _, _ => none
  | j + 1, x0, x1, x2 =>
    bif (decide (x2 < (↑x0.length : Int))) then
      bif (decide (x2 > (0 : Int))) then
        if ((↑ (x1.size + (ByteArray.mk #[(32 : UInt8)]).size) : Int) ≤ IntKind.i64.max) then
          if ((0 : Int) ≤ x2) ∧ (x2 < (↑x0.length : Int)) ∧ ((f32 k (x0.getD x2.toNat RTy.str.dflt)).isSome = true) ∧ ((↑ ((x1 ++ (ByteArray.mk #[(32 : UInt8)])).size + ByteArray.size (v32 k (x0.getD x2.toNat RTy.str.dflt))) : Int) ≤ IntKind.i64.max) then
            bif (decide ((↑ (x1 ++ (ByteArray.mk #[(32 : UInt8)]) ++ v32 k (x0.getD x2.toNat RTy.str.dflt)).size : Int) > (1024 : Int))) then
              some ((ByteArray.mk #[], 8))
            else
              f15_13 k j x0 ((x1 ++ (ByteArray.mk #[32]) ++ v32 k (x0.getD x2.toNat RTy.str.dflt))) ((IntKind.i64.wrap (x2 + 1)))
          else none
        else none
      else
        if ((0 : Int) ≤ x2) ∧ (x2 < (↑x0.length : Int)) ∧ ((f32 k (x0.getD x2.toNat RTy.str.dflt)).isSome = true) ∧ ((↑ (x1.size + ByteArray.size (v32 k (x0.getD x2.toNat RTy.str.dflt))) : Int) ≤ IntKind.i64.max) then
          bif (decide ((↑ (x1 ++ v32 k (x0.getD x2.toNat RTy.str.dflt)).size : Int) > (1024 : Int))) then
            some ((ByteArray.mk #[], 8))
          else
            f15_13 k j x0 ((x1 ++ v32 k (x0.getD x2.toNat RTy.str.dflt))) ((IntKind.i64.wrap (x2 + 1)))
        else none
    else
      some ((x1, 0))
end
def f15 (k : Nat) (fields_ : List (RTy.str).T) : Option R15 :=
  f15_3 k k fields_ ((ByteArray.mk #[])) 0
def args15 (fields_ : List (RTy.str).T) : List AV := [.r (.ro RTy.str fields_)]
def v15 (k : Nat) (fields_ : List (RTy.str).T) : R15 := (f15 k fields_).getD (ByteArray.empty, 0)
theorem ev15 (k : Nat) : ∀ j, (∀ (x0 : List (RTy.str).T) (x1 : ByteArray) (x2 : Int) (r : R15), f15_3 k j x0 x1 x2 = some r → Ev Tryd.prog Tryd.f15 0 (placeAt Tryd.f15 3) (st15_3 x0 x1 x2) (res15 r) (bo15 r)) ∧ (∀ (x0 : List (RTy.str).T) (x1 : ByteArray) (x2 : Int) (x3 : Int) (r : R15), f15_8 k j x0 x1 x2 x3 = some r → Ev Tryd.prog Tryd.f15 0 (placeAt Tryd.f15 8) (st15_8 x0 x1 x2 x3) (res15 r) (bo15 r)) ∧ (∀ (x0 : List (RTy.str).T) (x1 : ByteArray) (x2 : Int) (r : R15), f15_13 k j x0 x1 x2 = some r → Ev Tryd.prog Tryd.f15 0 (placeAt Tryd.f15 13) (st15_13 x0 x1 x2) (res15 r) (bo15 r))
  | 0 => by
    refine ⟨?_, ?_, ?_⟩ <;> intros <;> rename_i h <;> simp [f15_3, f15_8, f15_13] at h
  | j + 1 => by
    have ih := ev15 k j
    refine ⟨?_, ?_, ?_⟩
    · intro x0 x1 x2 r h
      rw [f15_3] at h
      refine Ev.tree hm (R := Rt) (K := (K15 k)) (l := []) (C := [(3, [.auto [0, 4, 5] false]), (8, [.auto [0, 4, 5, 6] false]), (13, [.auto [0, 4, 7] false])]) (E := [.auto [2, 3] true]) (n := 1000) (T := .test ((decide (x2 < (↑x0.length : Int)))) (.need [(0 : Int) ≤ x2, x2 < (↑x0.length : Int)] (.test ((decide ((↑ (ByteArray.size (x0.getD x2.toNat RTy.str.dflt)) : Int) > (256 : Int)))) (.leaf (res15 ((ByteArray.mk #[], 8))) (bo15 ((ByteArray.mk #[], 8)))) (.cut 8 (placeAt Tryd.f15 8) (st15_8 x0 x1 x2 0)))) (.cut 13 (placeAt Tryd.f15 13) (st15_13 x0 x1 0))) (by kernel_rfl) ?_
      refine ⟨fun c => ?_, fun c => ?_⟩
      · rw [cond_t c] at h
        by_cases q : ((0 : Int) ≤ x2) ∧ (x2 < (↑x0.length : Int))
        · rw [if_pos q] at h
          refine ⟨(conjC q.1 (conjC q.2 conj0)), ?_⟩
          refine ⟨fun c => ?_, fun c => ?_⟩
          · rw [cond_t c] at h
            cases h; exact ⟨rfl, rfl⟩
          · rw [cond_f c] at h
            exact ih.2.1 x0 x1 x2 0 _ h
        · rw [if_neg q] at h; cases h
      · rw [cond_f c] at h
        exact ih.2.2 x0 x1 0 _ h
    · intro x0 x1 x2 x3 r h
      rw [f15_8] at h
      refine Ev.tree hm (R := Rt) (K := (K15 k)) (l := []) (C := [(3, [.auto [0, 4, 5] false]), (8, [.auto [0, 4, 5, 6] false]), (13, [.auto [0, 4, 7] false])]) (E := [.auto [2, 3] true]) (n := 1000) (T := .need [(0 : Int) ≤ x2, x2 < (↑x0.length : Int)] (.test ((decide (x3 < (↑ (ByteArray.size (x0.getD x2.toNat RTy.str.dflt)) : Int)))) (.need [(0 : Int) ≤ x2, x2 < (↑x0.length : Int), (0 : Int) ≤ x3, x3 < (↑ (ByteArray.size (x0.getD x2.toNat RTy.str.dflt)) : Int), decide (bAt (x0.getD x2.toNat RTy.str.dflt) x3 < (32 : Int)) = false → (0 : Int) ≤ x2, decide (bAt (x0.getD x2.toNat RTy.str.dflt) x3 < (32 : Int)) = false → x2 < (↑x0.length : Int), decide (bAt (x0.getD x2.toNat RTy.str.dflt) x3 < (32 : Int)) = false → (0 : Int) ≤ x3, decide (bAt (x0.getD x2.toNat RTy.str.dflt) x3 < (32 : Int)) = false → x3 < (↑ (ByteArray.size (x0.getD x2.toNat RTy.str.dflt)) : Int)] (.test ((decide (bAt (x0.getD x2.toNat RTy.str.dflt) x3 < (32 : Int)) || decide (bAt (x0.getD x2.toNat RTy.str.dflt) x3 > (126 : Int)))) (.leaf (res15 ((ByteArray.mk #[], 3))) (bo15 ((ByteArray.mk #[], 3)))) (.cut 8 (placeAt Tryd.f15 8) (st15_8 x0 x1 x2 ((IntKind.i64.wrap (x3 + 1))))))) (.cut 3 (placeAt Tryd.f15 3) (st15_3 x0 x1 ((IntKind.i64.wrap (x2 + 1))))))) (by kernel_rfl) ?_
      by_cases q : ((0 : Int) ≤ x2) ∧ (x2 < (↑x0.length : Int))
      · rw [if_pos q] at h
        refine ⟨(conjC q.1 (conjC q.2 conj0)), ?_⟩
        refine ⟨fun c => ?_, fun c => ?_⟩
        · rw [cond_t c] at h
          by_cases q : ((0 : Int) ≤ x2) ∧ (x2 < (↑x0.length : Int)) ∧ ((0 : Int) ≤ x3) ∧ (x3 < (↑ (ByteArray.size (x0.getD x2.toNat RTy.str.dflt)) : Int)) ∧ (decide (bAt (x0.getD x2.toNat RTy.str.dflt) x3 < (32 : Int)) = false → (0 : Int) ≤ x2) ∧ (decide (bAt (x0.getD x2.toNat RTy.str.dflt) x3 < (32 : Int)) = false → x2 < (↑x0.length : Int)) ∧ (decide (bAt (x0.getD x2.toNat RTy.str.dflt) x3 < (32 : Int)) = false → (0 : Int) ≤ x3) ∧ (decide (bAt (x0.getD x2.toNat RTy.str.dflt) x3 < (32 : Int)) = false → x3 < (↑ (ByteArray.size (x0.getD x2.toNat RTy.str.dflt)) : Int))
          · rw [if_pos q] at h
            refine ⟨(conjC q.1 (conjC q.2.1 (conjC q.2.2.1 (conjC q.2.2.2.1 (conjC q.2.2.2.2.1 (conjC q.2.2.2.2.2.1 (conjC q.2.2.2.2.2.2.1 (conjC q.2.2.2.2.2.2.2 conj0)))))))), ?_⟩
            refine ⟨fun c => ?_, fun c => ?_⟩
            · rw [cond_t c] at h
              cases h; exact ⟨rfl, rfl⟩
            · rw [cond_f c] at h
              exact ih.2.1 x0 x1 x2 ((IntKind.i64.wrap (x3 + 1))) _ h
          · rw [if_neg q] at h; cases h
        · rw [cond_f c] at h
          exact ih.1 x0 x1 ((IntKind.i64.wrap (x2 + 1))) _ h
      · rw [if_neg q] at h; cases h
    · intro x0 x1 x2 r h
      rw [f15_13] at h
      refine Ev.tree hm (R := Rt) (K := (K15 k)) (l := []) (C := [(3, [.auto [0, 4, 5] false]), (8, [.auto [0, 4, 5, 6] false]), (13, [.auto [0, 4, 7] false])]) (E := [.auto [2, 3] true]) (n := 1000) (T := .test ((decide (x2 < (↑x0.length : Int)))) (.test ((decide (x2 > (0 : Int)))) (.need [(↑ (x1.size + (ByteArray.mk #[(32 : UInt8)]).size) : Int) ≤ IntKind.i64.max] (.need [(0 : Int) ≤ x2, x2 < (↑x0.length : Int), CC Tryd.prog 32 (args32 (x0.getD x2.toNat RTy.str.dflt)) [] (res32 (v32 k (x0.getD x2.toNat RTy.str.dflt))) (bo32 (v32 k (x0.getD x2.toNat RTy.str.dflt))), (↑ ((x1 ++ (ByteArray.mk #[(32 : UInt8)])).size + ByteArray.size (v32 k (x0.getD x2.toNat RTy.str.dflt))) : Int) ≤ IntKind.i64.max] (.test ((decide ((↑ (x1 ++ (ByteArray.mk #[(32 : UInt8)]) ++ v32 k (x0.getD x2.toNat RTy.str.dflt)).size : Int) > (1024 : Int)))) (.leaf (res15 ((ByteArray.mk #[], 8))) (bo15 ((ByteArray.mk #[], 8)))) (.cut 13 (placeAt Tryd.f15 13) (st15_13 x0 ((x1 ++ (ByteArray.mk #[32]) ++ v32 k (x0.getD x2.toNat RTy.str.dflt))) ((IntKind.i64.wrap (x2 + 1)))))))) (.need [(0 : Int) ≤ x2, x2 < (↑x0.length : Int), CC Tryd.prog 32 (args32 (x0.getD x2.toNat RTy.str.dflt)) [] (res32 (v32 k (x0.getD x2.toNat RTy.str.dflt))) (bo32 (v32 k (x0.getD x2.toNat RTy.str.dflt))), (↑ (x1.size + ByteArray.size (v32 k (x0.getD x2.toNat RTy.str.dflt))) : Int) ≤ IntKind.i64.max] (.test ((decide ((↑ (x1 ++ v32 k (x0.getD x2.toNat RTy.str.dflt)).size : Int) > (1024 : Int)))) (.leaf (res15 ((ByteArray.mk #[], 8))) (bo15 ((ByteArray.mk #[], 8)))) (.cut 13 (placeAt Tryd.f15 13) (st15_13 x0 ((x1 ++ v32 k (x0.getD x2.toNat RTy.str.dflt))) ((IntKind.i64.wrap (x2 + 1)))))))) (.leaf (res15 ((x1, 0))) (bo15 ((x1, 0))))) (by kernel_rfl) ?_
      refine ⟨fun c => ?_, fun c => ?_⟩
      · rw [cond_t c] at h
        refine ⟨fun c => ?_, fun c => ?_⟩
        · rw [cond_t c] at h
          by_cases q : ((↑ (x1.size + (ByteArray.mk #[(32 : UInt8)]).size) : Int) ≤ IntKind.i64.max)
          · rw [if_pos q] at h
            refine ⟨(conjC q conj0), ?_⟩
            by_cases q : ((0 : Int) ≤ x2) ∧ (x2 < (↑x0.length : Int)) ∧ ((f32 k (x0.getD x2.toNat RTy.str.dflt)).isSome = true) ∧ ((↑ ((x1 ++ (ByteArray.mk #[(32 : UInt8)])).size + ByteArray.size (v32 k (x0.getD x2.toNat RTy.str.dflt))) : Int) ≤ IntKind.i64.max)
            · rw [if_pos q] at h
              refine ⟨(conjC q.1 (conjC q.2.1 (conjC (cc32 k (x0.getD x2.toNat RTy.str.dflt) q.2.2.1) (conjC q.2.2.2 conj0)))), ?_⟩
              refine ⟨fun c => ?_, fun c => ?_⟩
              · rw [cond_t c] at h
                cases h; exact ⟨rfl, rfl⟩
              · rw [cond_f c] at h
                exact ih.2.2 x0 ((x1 ++ (ByteArray.mk #[32]) ++ v32 k (x0.getD x2.toNat RTy.str.dflt))) ((IntKind.i64.wrap (x2 + 1))) _ h
            · rw [if_neg q] at h; cases h
          · rw [if_neg q] at h; cases h
        · rw [cond_f c] at h
          by_cases q : ((0 : Int) ≤ x2) ∧ (x2 < (↑x0.length : Int)) ∧ ((f32 k (x0.getD x2.toNat RTy.str.dflt)).isSome = true) ∧ ((↑ (x1.size + ByteArray.size (v32 k (x0.getD x2.toNat RTy.str.dflt))) : Int) ≤ IntKind.i64.max)
          · rw [if_pos q] at h
            refine ⟨(conjC q.1 (conjC q.2.1 (conjC (cc32 k (x0.getD x2.toNat RTy.str.dflt) q.2.2.1) (conjC q.2.2.2 conj0)))), ?_⟩
            refine ⟨fun c => ?_, fun c => ?_⟩
            · rw [cond_t c] at h
              cases h; exact ⟨rfl, rfl⟩
            · rw [cond_f c] at h
              exact ih.2.2 x0 ((x1 ++ v32 k (x0.getD x2.toNat RTy.str.dflt))) ((IntKind.i64.wrap (x2 + 1))) _ h
          · rw [if_neg q] at h; cases h
      · rw [cond_f c] at h
        cases h; exact ⟨rfl, rfl⟩
theorem of15 (k : Nat) (fields_ : List (RTy.str).T) (r : R15) (h : f15 k fields_ = some r) : CC Tryd.prog 15 (args15 fields_) [] (res15 r) (bo15 r) := by
  refine CC.of (fn := Tryd.f15) (by kernel_rfl) (by kernel_rfl) (by kernel_rfl) (by kernel_rfl) ?_
  unfold f15 at h
  refine Ev.tree hm (R := Rt) (K := (K15 k)) (l := []) (C := [(3, [.auto [0, 4, 5] false]), (8, [.auto [0, 4, 5, 6] false]), (13, [.auto [0, 4, 7] false])]) (E := [.auto [2, 3] true]) (n := 1000) (T := .cut 3 (placeAt Tryd.f15 3) (st15_3 fields_ ((ByteArray.mk #[])) 0)) (by kernel_rfl) ?_
  exact (ev15 k k).1 fields_ ((ByteArray.mk #[])) 0 _ h
theorem cc15 (k : Nat) (fields_ : List (RTy.str).T) (h : (f15 k fields_).isSome = true) : CC Tryd.prog 15 (args15 fields_) [] (res15 (v15 k fields_)) (bo15 (v15 k fields_)) := by
  cases e : f15 k fields_ with
  | none => rw [e] at h; cases h
  | some r => rw [show v15 k fields_ = r by simp [v15, e]]; exact of15 k fields_ r e

end
end Go.AM
namespace Go.AM
open Go Go.Proofs Go.Lib

theorem any3 : ∀ l : List UInt8, (l.any fun b => [32, 34, 92].contains b) = ((l.any fun b => b == 32) || ((l.any fun b => b == 34) || (l.any fun b => b == 92)))
  | [] => rfl
  | b :: l => by
    have ih := any3 l
    have e : ([32, 34, 92] : List UInt8).contains b = (b == 32 || (b == 34 || b == 92)) := by
      rw [List.contains_cons, List.contains_cons, List.contains_cons, List.contains_nil, Bool.or_false]
    rw [List.any_cons, List.any_cons, List.any_cons, List.any_cons, e, ih]
    generalize (l.any fun b => b == 32) = A
    generalize (l.any fun b => b == 34) = B
    generalize (l.any fun b => b == 92) = C
    generalize (b == 32) = x
    generalize (b == 34) = y
    generalize (b == 92) = z
    cases A <;> cases B <;> cases C <;> cases x <;> cases y <;> cases z <;> rfl
theorem f32_s (k : Nat) (hk : 300 ≤ k) (s : ByteArray) (hs : s.size ≤ 256) : f32 k s = some (frm s) := by
  have hl : f32_5 k k s (ByteArray.mk #[34]) 0 = some (mkL (34 :: esc s.data.toList ++ [34])) := f32_l k s hs k 0 [34] (by omega) (by omega) (by simp)
  have a : f49 k s (32 : Int) = some (s.data.toList.any fun b => b == 32) := f49_s k 32 hk (by omega) s hs
  have b : f49 k s (34 : Int) = some (s.data.toList.any fun b => b == 34) := f49_s k 34 hk (by omega) s hs
  have c : f49 k s (92 : Int) = some (s.data.toList.any fun b => b == 92) := f49_s k 92 hk (by omega) s hs
  have a' : v49 k s (32 : Int) = (s.data.toList.any fun b => b == 32) := v49_s k 32 hk (by omega) s hs
  have b' : v49 k s (34 : Int) = (s.data.toList.any fun b => b == 34) := v49_s k 34 hk (by omega) s hs
  have c' : v49 k s (92 : Int) = (s.data.toList.any fun b => b == 92) := v49_s k 92 hk (by omega) s hs
  have hf : frm s = if (s.data.toList.isEmpty || ((s.data.toList.any fun b => b == 32) || ((s.data.toList.any fun b => b == 34) || (s.data.toList.any fun b => b == 92)))) = true then mkL (34 :: esc s.data.toList ++ [34]) else s := by
    unfold frm qt; rw [any3]; rfl
  unfold f32
  rw [emp, a, b, c, a', b', c', hl, hf]
  generalize mkL (34 :: esc s.data.toList ++ [34]) = q
  generalize (s.data.toList.any fun b => b == 32) = A
  generalize (s.data.toList.any fun b => b == 34) = B
  generalize (s.data.toList.any fun b => b == 92) = C
  generalize s.data.toList.isEmpty = D
  cases A <;> cases B <;> cases C <;> cases D <;> simp
theorem v32_s (k : Nat) (hk : 300 ≤ k) (s : ByteArray) (hs : s.size ≤ 256) : v32 k s = frm s := by unfold v32; rw [f32_s k hk s hs]; rfl
theorem frm_size (s : ByteArray) (hs : s.size ≤ 256) : (frm s).size ≤ 600 := by
  unfold frm
  split
  · have := esc_len s.data.toList
    rw [size_len] at this
    show (mkL (34 :: esc s.data.toList ++ [34])).size ≤ 600
    rw [mkL_size, List.length_append, List.length_cons, List.length_singleton]; omega
  · omega

def chkAll : List ByteArray → Int
  | [] => 0
  | s :: r => if chk s = 0 then chkAll r else chk s
def jn : Bool → ByteArray → List ByteArray → ByteArray × Int
  | _, acc, [] => (acc, 0)
  | f, acc, s :: r => if 1024 < ((if f = true then acc ++ ByteArray.mk #[32] else acc) ++ frm s).size then (ByteArray.mk #[], 8) else jn true ((if f = true then acc ++ ByteArray.mk #[32] else acc) ++ frm s) r
theorem app_size (a b : ByteArray) : (a ++ b).size = a.size + b.size := ByteArray.size_append

theorem f15_b (k : Nat) (hk : 300 ≤ k) (l : List ByteArray) (hl : l.length ≤ 100) (hc : ∀ s ∈ l, chk s = 0) : ∀ (j i : Nat) (acc : ByteArray), i ≤ l.length → l.length - i < j → acc.size ≤ 1024 →
    f15_13 k j l acc (i : Int) = some (jn (decide (0 < i)) acc (l.drop i))
  | 0, i, _, _, h, _ => by omega
  | j + 1, i, acc, hi, hj, ha => by
    unfold f15_13
    by_cases hlt : i < l.length
    · have hd := drop_cons' l i RTy.str.dflt hlt
      rw [decide_eq_true (by omega : (i : Int) < (l.length : Int)), cond_true, hd, show ((i : Nat) : Int).toNat = i from rfl]
      have hs : chk (l.getD i RTy.str.dflt) = 0 := hc _ (by rw [List.getD_eq_getElem?_getD, List.getElem?_eq_getElem hlt]; exact List.getElem_mem hlt)
      generalize l.getD i RTy.str.dflt = s at hs
      have h256 := (chk0 hs).1
      have hfs := frm_size s h256
      rw [f32_s k hk s h256, v32_s k hk s h256, hmx, wrapS i (by omega)]
      have h1 : ((acc.size + (ByteArray.mk #[(32 : UInt8)]).size : Nat) : Int) ≤ 9223372036854775807 := by
        rw [show (ByteArray.mk #[(32 : UInt8)]).size = 1 from rfl]; omega
      have h2 : (((acc ++ ByteArray.mk #[(32 : UInt8)]).size + (frm s).size : Nat) : Int) ≤ 9223372036854775807 := by
        rw [app_size, show (ByteArray.mk #[(32 : UInt8)]).size = 1 from rfl]; omega
      have h3 : ((acc.size + (frm s).size : Nat) : Int) ≤ 9223372036854775807 := by omega
      rw [jn]
      by_cases h0 : 0 < i
      · rw [decide_eq_true (by omega : (i : Int) > 0), cond_true, if_pos h1, if_pos ⟨by omega, by omega, rfl, h2⟩, decide_eq_true h0, if_pos (c := true = true) rfl]
        by_cases hb : 1024 < (acc ++ ByteArray.mk #[32] ++ frm s).size
        · rw [decide_eq_true (by omega : ((acc ++ ByteArray.mk #[32] ++ frm s).size : Int) > 1024), cond_true, if_pos hb]
        · rw [decide_eq_false (by omega : ¬ ((acc ++ ByteArray.mk #[32] ++ frm s).size : Int) > 1024), cond_false, if_neg hb, f15_b k hk l hl hc j (i + 1) _ (by omega) (by omega) (by omega), decide_eq_true (by omega : 0 < i + 1)]
      · rw [decide_eq_false (by omega : ¬ (i : Int) > 0), cond_false, if_pos ⟨by omega, by omega, rfl, h3⟩, decide_eq_false h0, if_neg (c := false = true) Bool.false_ne_true]
        by_cases hb : 1024 < (acc ++ frm s).size
        · rw [decide_eq_true (by omega : ((acc ++ frm s).size : Int) > 1024), cond_true, if_pos hb]
        · rw [decide_eq_false (by omega : ¬ ((acc ++ frm s).size : Int) > 1024), cond_false, if_neg hb, f15_b k hk l hl hc j (i + 1) _ (by omega) (by omega) (by omega), decide_eq_true (by omega : 0 < i + 1)]
    · have : l.drop i = [] := List.drop_of_length_le (by omega)
      rw [decide_eq_false (by omega : ¬ (i : Int) < (l.length : Int)), cond_false, this]; rfl
end Go.AM
namespace Go.AM
open Go Go.Proofs
set_option linter.unusedVariables false
noncomputable section
/-! ### function 12: papermill/papermilllaw07.great -/
def K12 (k : Nat) : Calld := ⟨fun g => match g with
  | _ => none, fun g xs _ => match g with
  | _ => none⟩
abbrev R12 : Type := Bool
def res12 (r : R12) : AV := .r (.v (.bool r))
def bo12 (r : R12) : List (Nat × Blk) := []
def st12_4 (x0 : List (RTy.str).T) (x1 : Int) : St := ⟨mkS 19 [(0, .r (.ro RTy.str x0)), (3, .r (.v (.int .i64 x1)))], []⟩
def f12_4 (k : Nat) : Nat → List (RTy.str).T → Int → Option R12
  | 0, _, _ => none
  | j + 1, x0, x1 =>
    bif (decide (x1 < (↑x0.length : Int))) then
      if ((0 : Int) ≤ x1) ∧ (x1 < (↑x0.length : Int)) then
        bif (decide ((↑ (ByteArray.size (x0.getD x1.toNat RTy.str.dflt)) : Int) > (600 : Int))) then
          some true
        else
          f12_4 k j x0 ((IntKind.i64.wrap (x1 + 1)))
      else none
    else
      some false
def f12 (k : Nat) (l_ : List (RTy.str).T) : Option R12 :=
  bif (decide ((↑l_.length : Int) > (100 : Int))) then
    some true
  else
    f12_4 k k l_ 0
def args12 (l_ : List (RTy.str).T) : List AV := [.r (.ro RTy.str l_)]
def v12 (k : Nat) (l_ : List (RTy.str).T) : R12 := (f12 k l_).getD false
theorem ev12 (k : Nat) : ∀ j, (∀ (x0 : List (RTy.str).T) (x1 : Int) (r : R12), f12_4 k j x0 x1 = some r → Ev Tryd.prog Tryd.f12 0 (placeAt Tryd.f12 4) (st12_4 x0 x1) (res12 r) (bo12 r))
  | 0 => by
    intros; rename_i h; simp [f12_4] at h
  | j + 1 => by
    have ih := ev12 k j
    · intro x0 x1 r h
      rw [f12_4] at h
      refine Ev.tree hm (R := Rt) (K := (K12 k)) (l := []) (C := [(4, [.auto [0, 3] false])]) (E := [.auto [2] true]) (n := 1000) (T := .test ((decide (x1 < (↑x0.length : Int)))) (.need [(0 : Int) ≤ x1, x1 < (↑x0.length : Int)] (.test ((decide ((↑ (ByteArray.size (x0.getD x1.toNat RTy.str.dflt)) : Int) > (600 : Int)))) (.leaf (res12 true) (bo12 true)) (.cut 4 (placeAt Tryd.f12 4) (st12_4 x0 ((IntKind.i64.wrap (x1 + 1))))))) (.leaf (res12 false) (bo12 false))) (by kernel_rfl) ?_
      refine ⟨fun c => ?_, fun c => ?_⟩
      · rw [cond_t c] at h
        by_cases q : ((0 : Int) ≤ x1) ∧ (x1 < (↑x0.length : Int))
        · rw [if_pos q] at h
          refine ⟨(conjC q.1 (conjC q.2 conj0)), ?_⟩
          refine ⟨fun c => ?_, fun c => ?_⟩
          · rw [cond_t c] at h
            cases h; exact ⟨rfl, rfl⟩
          · rw [cond_f c] at h
            exact ih x0 ((IntKind.i64.wrap (x1 + 1))) _ h
        · rw [if_neg q] at h; cases h
      · rw [cond_f c] at h
        cases h; exact ⟨rfl, rfl⟩
theorem of12 (k : Nat) (l_ : List (RTy.str).T) (r : R12) (h : f12 k l_ = some r) : CC Tryd.prog 12 (args12 l_) [] (res12 r) (bo12 r) := by
  refine CC.of (fn := Tryd.f12) (by kernel_rfl) (by kernel_rfl) (by kernel_rfl) (by kernel_rfl) ?_
  unfold f12 at h
  refine Ev.tree hm (R := Rt) (K := (K12 k)) (l := []) (C := [(4, [.auto [0, 3] false])]) (E := [.auto [2] true]) (n := 1000) (T := .test ((decide ((↑l_.length : Int) > (100 : Int)))) (.leaf (res12 true) (bo12 true)) (.cut 4 (placeAt Tryd.f12 4) (st12_4 l_ 0))) (by kernel_rfl) ?_
  refine ⟨fun c => ?_, fun c => ?_⟩
  · rw [cond_t c] at h
    cases h; exact ⟨rfl, rfl⟩
  · rw [cond_f c] at h
    exact (ev12 k k) l_ 0 _ h
theorem cc12 (k : Nat) (l_ : List (RTy.str).T) (h : (f12 k l_).isSome = true) : CC Tryd.prog 12 (args12 l_) [] (res12 (v12 k l_)) (bo12 (v12 k l_)) := by
  cases e : f12 k l_ with
  | none => rw [e] at h; cases h
  | some r => rw [show v12 k l_ = r by simp [v12, e]]; exact of12 k l_ r e

end
end Go.AM
namespace Go.AM
open Go Go.Proofs
set_option linter.unusedVariables false
noncomputable section
/-! ### function 3: papermill/papermilllaw07.FieldJoins -/
def K3 (k : Nat) : Calld := ⟨fun g => match g with
  | 14 => some [false]
  | 13 => some []
  | 12 => some [false]
  | 15 => some [false]
  | _ => none, fun g xs _ => match g with
  | 14 => match xs with
    | [.r (.ro t0_ q0)] => (castL t0_ RTy.str q0).bind fun fields_ => some (res14 (v14 k fields_), bo14 (v14 k fields_))
    | _ => none
  | 13 => match xs with
    | [] => some (res13 (v13 k ), bo13 (v13 k ))
    | _ => none
  | 12 => match xs with
    | [.r (.ro t0_ q0)] => (castL t0_ RTy.str q0).bind fun l_ => some (res12 (v12 k l_), bo12 (v12 k l_))
    | _ => none
  | 15 => match xs with
    | [.r (.ro t0_ q0)] => (castL t0_ RTy.str q0).bind fun fields_ => some (res15 (v15 k fields_), bo15 (v15 k fields_))
    | _ => none
  | _ => none⟩
abbrev R3 : Type := Bool
def res3 (r : R3) : AV := .r (.v (.bool r))
def bo3 (r : R3) : List (Nat × Blk) := []
def f3 (k : Nat) (l_ : List (RTy.str).T) : Option R3 :=
  if ((f12 k l_).isSome = true) then
    bif (v12 k l_) then
      if ((f13 k ).isSome = true) then
        some (v13 k)
      else none
    else
      if ((f14 k l_).isSome = true) then
        if ((f15 k l_).isSome = true) then
          bif ((v14 k l_).fst.toList == (v15 k l_).fst.toList && (v14 k l_).snd == (v15 k l_).snd) then
            if (((v14 k l_).fst.toList == (v15 k l_).fst.toList && (v14 k l_).snd == (v15 k l_).snd) = true) ∧ ((f13 k ).isSome = true) then
              some (true && v13 k)
            else none
          else
            if (((v14 k l_).fst.toList == (v15 k l_).fst.toList && (v14 k l_).snd == (v15 k l_).snd) = false) then
              some false
            else none
        else none
      else none
  else none
def args3 (l_ : List (RTy.str).T) : List AV := [.r (.ro RTy.str l_)]
def v3 (k : Nat) (l_ : List (RTy.str).T) : R3 := (f3 k l_).getD false
theorem of3 (k : Nat) (l_ : List (RTy.str).T) (r : R3) (h : f3 k l_ = some r) : CC Tryd.prog 3 (args3 l_) [] (res3 r) (bo3 r) := by
  refine CC.of (fn := Tryd.f3) (by kernel_rfl) (by kernel_rfl) (by kernel_rfl) (by kernel_rfl) ?_
  unfold f3 at h
  refine Ev.tree hm (R := Rt) (K := (K3 k)) (l := []) (C := []) (E := [.auto [2] true]) (n := 1000) (T := .need [CC Tryd.prog 12 (args12 l_) [] (res12 (v12 k l_)) (bo12 (v12 k l_))] (.test ((v12 k l_)) (.need [CC Tryd.prog 13 (args13 ) [] (res13 (v13 k )) (bo13 (v13 k ))] (.leaf (res3 (v13 k)) (bo3 (v13 k)))) (.need [CC Tryd.prog 14 (args14 l_) [] (res14 (v14 k l_)) (bo14 (v14 k l_))] (.need [CC Tryd.prog 15 (args15 l_) [] (res15 (v15 k l_)) (bo15 (v15 k l_))] (.test (((v14 k l_).fst.toList == (v15 k l_).fst.toList && (v14 k l_).snd == (v15 k l_).snd)) (.need [((v14 k l_).fst.toList == (v15 k l_).fst.toList && (v14 k l_).snd == (v15 k l_).snd) = true, CC Tryd.prog 13 (args13 ) [] (res13 (v13 k )) (bo13 (v13 k ))] (.leaf (res3 (true && v13 k)) (bo3 (true && v13 k)))) (.need [((v14 k l_).fst.toList == (v15 k l_).fst.toList && (v14 k l_).snd == (v15 k l_).snd) = false] (.leaf (res3 false) (bo3 false)))))))) (by kernel_rfl) ?_
  by_cases q : ((f12 k l_).isSome = true)
  · rw [if_pos q] at h
    refine ⟨(conjC (cc12 k l_ q) conj0), ?_⟩
    refine ⟨fun c => ?_, fun c => ?_⟩
    · rw [cond_t c] at h
      by_cases q : ((f13 k ).isSome = true)
      · rw [if_pos q] at h
        refine ⟨(conjC (cc13 k  q) conj0), ?_⟩
        cases h; exact ⟨rfl, rfl⟩
      · rw [if_neg q] at h; cases h
    · rw [cond_f c] at h
      by_cases q : ((f14 k l_).isSome = true)
      · rw [if_pos q] at h
        refine ⟨(conjC (cc14 k l_ q) conj0), ?_⟩
        by_cases q : ((f15 k l_).isSome = true)
        · rw [if_pos q] at h
          refine ⟨(conjC (cc15 k l_ q) conj0), ?_⟩
          refine ⟨fun c => ?_, fun c => ?_⟩
          · rw [cond_t c] at h
            by_cases q : (((v14 k l_).fst.toList == (v15 k l_).fst.toList && (v14 k l_).snd == (v15 k l_).snd) = true) ∧ ((f13 k ).isSome = true)
            · rw [if_pos q] at h
              refine ⟨(conjC q.1 (conjC (cc13 k  q.2) conj0)), ?_⟩
              cases h; exact ⟨rfl, rfl⟩
            · rw [if_neg q] at h; cases h
          · rw [cond_f c] at h
            by_cases q : (((v14 k l_).fst.toList == (v15 k l_).fst.toList && (v14 k l_).snd == (v15 k l_).snd) = false)
            · rw [if_pos q] at h
              refine ⟨(conjC q conj0), ?_⟩
              cases h; exact ⟨rfl, rfl⟩
            · rw [if_neg q] at h; cases h
        · rw [if_neg q] at h; cases h
      · rw [if_neg q] at h; cases h
  · rw [if_neg q] at h; cases h
theorem cc3 (k : Nat) (l_ : List (RTy.str).T) (h : (f3 k l_).isSome = true) : CC Tryd.prog 3 (args3 l_) [] (res3 (v3 k l_)) (bo3 (v3 k l_)) := by
  cases e : f3 k l_ with
  | none => rw [e] at h; cases h
  | some r => rw [show v3 k l_ = r by simp [v3, e]]; exact of3 k l_ r e

end
end Go.AM
namespace Go.AM
open Go Go.Proofs Go.Lib

theorem frm_q {s : ByteArray} (h : qt s.data.toList = true) : ByteArray.mk #[34] ++ mkL (esc s.data.toList) ++ ByteArray.mk #[34] = frm s := by
  rw [quo, frm, if_pos h]; rfl
theorem v30_s (k : Nat) (s : ByteArray) (h : chk s = 0) : v30 k s = qt s.data.toList := by unfold v30; rw [f30_s k s h]; rfl
theorem v29_s (k : Nat) (hk : 300 ≤ k) (s : ByteArray) : v29 k s = chk s := by unfold v29; rw [f29_s k hk s]; rfl

theorem f14_b (k : Nat) (hk : 300 ≤ k) (l : List ByteArray) (hl : l.length ≤ 100) (hc : ∀ s ∈ l, chk s = 0) : ∀ (j i : Nat) (acc : ByteArray), i ≤ l.length → l.length - i < j → acc.size ≤ 1024 →
    f14_10 k j acc l (l.length : Int) (i : Int) = some (jn (decide (0 < i)) acc (l.drop i))
  | 0, i, _, _, h, _ => by omega
  | j + 1, i, acc, hi, hj, ha => by
    unfold f14_10
    by_cases hlt : i < l.length
    · have hd := drop_cons' l i RTy.str.dflt hlt
      rw [decide_eq_true (by omega : (i : Int) < (l.length : Int)), cond_true, hd, show ((i : Nat) : Int).toNat = i from rfl, if_pos ⟨by omega, by omega⟩]
      have hs : chk (l.getD i RTy.str.dflt) = 0 := hc _ (by rw [List.getD_eq_getElem?_getD, List.getElem?_eq_getElem hlt]; exact List.getElem_mem hlt)
      generalize l.getD i RTy.str.dflt = s at hs
      have h256 := (chk0 hs).1
      have hfs := frm_size s h256
      have h1 : ((acc.size + (ByteArray.mk #[(32 : UInt8)]).size : Nat) : Int) ≤ 9223372036854775807 := by
        rw [show (ByteArray.mk #[(32 : UInt8)]).size = 1 from rfl]; omega
      have h2 : (((acc ++ ByteArray.mk #[(32 : UInt8)]).size + (frm s).size : Nat) : Int) ≤ 9223372036854775807 := by
        rw [app_size, show (ByteArray.mk #[(32 : UInt8)]).size = 1 from rfl]; omega
      have h3 : ((acc.size + (frm s).size : Nat) : Int) ≤ 9223372036854775807 := by omega
      have h4 : ((acc.size + s.size : Nat) : Int) ≤ 9223372036854775807 := by omega
      have el := esc_len s.data.toList
      rw [size_len] at el
      have h5 : (((ByteArray.mk #[(34 : UInt8)]).size + (mkL (esc s.data.toList)).size : Nat) : Int) ≤ 9223372036854775807 := by
        rw [show (ByteArray.mk #[(34 : UInt8)]).size = 1 from rfl, mkL_size]; omega
      have h6 : (((ByteArray.mk #[(34 : UInt8)] ++ mkL (esc s.data.toList)).size + (ByteArray.mk #[(34 : UInt8)]).size : Nat) : Int) ≤ 9223372036854775807 := by
        rw [app_size, show (ByteArray.mk #[(34 : UInt8)]).size = 1 from rfl, mkL_size]; omega
      have ih := fun a => f14_b k hk l hl hc j (i + 1) a (by omega) (by omega)
      rw [decide_eq_true (by omega : 0 < i + 1)] at ih
      rw [f30_s k s hs, v30_s k s hs, if_some, hmx, wrapS i (by omega), jn]
      cases hq : qt s.data.toList
      · have hf : frm s = s := by rw [frm, hq]; rfl
        rw [cond_false]
        rw [hf] at h2 ⊢
        by_cases h0 : 0 < i
        · rw [decide_eq_true (by omega : (i : Int) > 0), cond_true, if_pos h1, if_pos h2, decide_eq_true h0, if_pos (c := true = true) rfl]
          by_cases hb : 1024 < (acc ++ ByteArray.mk #[32] ++ s).size
          · rw [decide_eq_true (by omega : ((acc ++ ByteArray.mk #[32] ++ s).size : Int) > 1024), cond_true, if_pos hb]
          · rw [decide_eq_false (by omega : ¬ ((acc ++ ByteArray.mk #[32] ++ s).size : Int) > 1024), cond_false, if_neg hb, ih _ (by omega)]
        · rw [decide_eq_false (by omega : ¬ (i : Int) > 0), cond_false, if_pos h4, decide_eq_false h0, if_neg (c := false = true) Bool.false_ne_true]
          by_cases hb : 1024 < (acc ++ s).size
          · rw [decide_eq_true (by omega : ((acc ++ s).size : Int) > 1024), cond_true, if_pos hb]
          · rw [decide_eq_false (by omega : ¬ ((acc ++ s).size : Int) > 1024), cond_false, if_neg hb, ih _ (by omega)]
      · rw [cond_true, f31_a k s (by omega), v31_a k s (by omega), if_some, f31_c k s h256, v31_c k s h256, if_pos ⟨rfl, h5, h6⟩, frm_q hq]
        by_cases h0 : 0 < i
        · rw [decide_eq_true (by omega : (i : Int) > 0), cond_true, if_pos h1, if_pos h2, decide_eq_true h0, if_pos (c := true = true) rfl]
          by_cases hb : 1024 < (acc ++ ByteArray.mk #[32] ++ frm s).size
          · rw [decide_eq_true (by omega : ((acc ++ ByteArray.mk #[32] ++ frm s).size : Int) > 1024), cond_true, if_pos hb]
          · rw [decide_eq_false (by omega : ¬ ((acc ++ ByteArray.mk #[32] ++ frm s).size : Int) > 1024), cond_false, if_neg hb, ih _ (by omega)]
        · rw [decide_eq_false (by omega : ¬ (i : Int) > 0), cond_false, if_pos h3, decide_eq_false h0, if_neg (c := false = true) Bool.false_ne_true]
          by_cases hb : 1024 < (acc ++ frm s).size
          · rw [decide_eq_true (by omega : ((acc ++ frm s).size : Int) > 1024), cond_true, if_pos hb]
          · rw [decide_eq_false (by omega : ¬ ((acc ++ frm s).size : Int) > 1024), cond_false, if_neg hb, ih _ (by omega)]
    · have : l.drop i = [] := List.drop_of_length_le (by omega)
      rw [decide_eq_false (by omega : ¬ (i : Int) < (l.length : Int)), cond_false, this]; rfl
end Go.AM
namespace Go.AM
open Go Go.Proofs Go.Lib

theorem f15_c (k : Nat) (l : List ByteArray) (hl : l.length ≤ 100) (m : Nat) (hm : m < l.length) (s : ByteArray) (hs : l.getD m RTy.str.dflt = s) (h256 : s.size ≤ 256) (acc : ByteArray) : ∀ (j i : Nat), i ≤ s.size → s.size - i < j →
    f15_8 k j l acc (m : Int) (i : Int) = if (s.data.toList.drop i).all okB = true then f15_3 k (j - (s.size - i) - 1) l acc ((m + 1 : Nat) : Int) else some (ByteArray.mk #[], 3)
  | 0, i, _, h => by omega
  | j + 1, i, hi, hj => by
    unfold f15_8
    rw [if_pos ⟨by omega, by omega⟩, show ((m : Nat) : Int).toNat = m from rfl, hs]
    by_cases hlt : i < s.size
    · obtain ⟨b, hb, hd⟩ := drop_at s i hlt
      rw [decide_eq_true (by omega : (i : Int) < (s.size : Int)), cond_true, hd, List.all_cons, if_pos ⟨by omega, by omega, by omega, by omega, fun _ => by omega, fun _ => by omega, fun _ => by omega, fun _ => by omega⟩, bAt_get s i b hb, wrapS i (by omega)]
      cases hc : okB b
      · have : (decide ((b.toNat : Int) < 32) || decide ((b.toNat : Int) > 126)) = true := by
          unfold okB at hc
          simp only [Bool.and_eq_false_iff, decide_eq_false_iff_not] at hc
          simp only [Bool.or_eq_true, decide_eq_true_eq]
          omega
        rw [this]
        simp
      · have : (decide ((b.toNat : Int) < 32) || decide ((b.toNat : Int) > 126)) = false := by
          unfold okB at hc
          simp only [Bool.and_eq_true, decide_eq_true_eq] at hc
          simp only [Bool.or_eq_false_iff, decide_eq_false_iff_not]
          omega
        rw [this, cond_false, Bool.true_and, f15_c k l hl m hm s hs h256 acc j (i + 1) (by omega) (by omega), show j - (s.size - (i + 1)) - 1 = j + 1 - (s.size - i) - 1 by omega]
    · have : s.data.toList.drop i = [] := List.drop_of_length_le (by rw [size_len]; omega)
      rw [decide_eq_false (by omega : ¬ (i : Int) < (s.size : Int)), cond_false, this, wrapS m (by omega), show s.size - i = 0 by omega]
      simp

def fin (l : List ByteArray) (e : Int) : ByteArray × Int := if e = 0 then jn false (ByteArray.mk #[]) l else (ByteArray.mk #[], e)

theorem chkAll_in : ∀ {l : List ByteArray}, chkAll l = 0 → ∀ s ∈ l, chk s = 0
  | [], _, s, h => by cases h
  | x :: r, e, s, h => by
    rw [chkAll] at e
    by_cases hx : chk x = 0
    · rw [if_pos hx] at e
      rcases List.mem_cons.1 h with rfl | h
      · exact hx
      · exact chkAll_in e s h
    · rw [if_neg hx] at e; exact absurd e hx

set_option maxRecDepth 20000 in
theorem f15_a (k : Nat) (hk : 300 ≤ k) (l : List ByteArray) (hl : l.length ≤ 100) : ∀ (n m j : Nat), l.length - m = n → m ≤ l.length → (l.length - m) * 300 + 200 < j → (chkAll (l.drop m) = 0 → ∀ s ∈ l, chk s = 0) →
    f15_3 k j l (ByteArray.mk #[]) (m : Int) = some (fin l (chkAll (l.drop m)))
  | 0, m, j, hn, hm, hj, hc => by
    obtain ⟨j, rfl⟩ : ∃ i, j = i + 1 := ⟨j - 1, by omega⟩
    have hd : l.drop m = [] := List.drop_of_length_le (by omega)
    unfold f15_3
    rw [hd] at hc ⊢
    rw [decide_eq_false (by omega : ¬ (m : Int) < (l.length : Int)), cond_false]
    exact f15_b k hk l hl (hc rfl) j 0 _ (by omega) (by omega) (by decide)
  | n + 1, m, j, hn, hm, hj, hc => by
    obtain ⟨j, rfl⟩ : ∃ i, j = i + 1 := ⟨j - 1, by omega⟩
    have hlt : m < l.length := by omega
    have hd := drop_cons' l m RTy.str.dflt hlt
    obtain ⟨s, hs⟩ : ∃ s, l.getD m RTy.str.dflt = s := ⟨_, rfl⟩
    rw [hs] at hd
    unfold f15_3
    rw [decide_eq_true (by omega : (m : Int) < (l.length : Int)), cond_true, if_pos ⟨by omega, by omega⟩, show ((m : Nat) : Int).toNat = m from rfl, hs]
    rw [hd, chkAll] at hc ⊢
    by_cases h : 256 < s.size
    · have e : chk s = 8 := by rw [chk, if_pos h]
      rw [decide_eq_true (by omega : (s.size : Int) > 256), cond_true, e]; rfl
    · rw [decide_eq_false (by omega : ¬ (s.size : Int) > 256), cond_false]
      have := f15_c k l hl m hlt s hs (by omega) (ByteArray.mk #[]) j 0 (by omega) (by omega)
      rw [show ((0 : Nat) : Int) = 0 from rfl, List.drop_zero] at this
      rw [this]
      by_cases ha : s.data.toList.all okB = true
      · have e : chk s = 0 := by rw [chk, if_neg h, if_pos ha]
        rw [if_pos ha, e, if_pos rfl]
        exact f15_a k hk l hl n (m + 1) _ (by omega) (by omega) (by omega) (fun h0 => hc (by rw [e, if_pos rfl]; exact h0))
      · have e : chk s = 3 := by rw [chk, if_neg h, if_neg ha]
        rw [if_neg ha, e]; rfl

theorem f14_a (k : Nat) (hk : 300 ≤ k) (l : List ByteArray) (hl : l.length ≤ 100) : ∀ (n m j : Nat), l.length - m = n → m ≤ l.length → (l.length - m) + 200 < j → (chkAll (l.drop m) = 0 → ∀ s ∈ l, chk s = 0) →
    f14_2 k j l l (l.length : Int) (m : Int) = some (fin l (chkAll (l.drop m)))
  | 0, m, j, hn, hm, hj, hc => by
    obtain ⟨j, rfl⟩ : ∃ i, j = i + 1 := ⟨j - 1, by omega⟩
    have hd : l.drop m = [] := List.drop_of_length_le (by omega)
    unfold f14_2
    rw [hd] at hc ⊢
    rw [decide_eq_false (by omega : ¬ (m : Int) < (l.length : Int)), cond_false]
    exact f14_b k hk l hl (hc rfl) j 0 _ (by omega) (by omega) (by decide)
  | n + 1, m, j, hn, hm, hj, hc => by
    obtain ⟨j, rfl⟩ : ∃ i, j = i + 1 := ⟨j - 1, by omega⟩
    have hlt : m < l.length := by omega
    have hd := drop_cons' l m RTy.str.dflt hlt
    obtain ⟨s, hs⟩ : ∃ s, l.getD m RTy.str.dflt = s := ⟨_, rfl⟩
    rw [hs] at hd
    unfold f14_2
    rw [decide_eq_true (by omega : (m : Int) < (l.length : Int)), cond_true, if_pos ⟨by omega, by omega⟩, show ((m : Nat) : Int).toNat = m from rfl, hs, f29_s k hk s, v29_s k hk s, if_some]
    rw [hd, chkAll] at hc ⊢
    by_cases e : chk s = 0
    · rw [e, if_pos rfl, wrapS m (by omega)]
      exact f14_a k hk l hl n (m + 1) _ (by omega) (by omega) (by omega) (fun h0 => hc (by rw [e, if_pos rfl]; exact h0))
    · rw [if_neg e, show (chk s != 0) = true by simpa using e, cond_true, fin, if_neg e]

theorem f12_l (k : Nat) (l : List ByteArray) (hl : l.length ≤ 100) : ∀ (j i : Nat), i ≤ l.length → l.length - i < j → ∃ r, f12_4 k j l (i : Int) = some r
  | 0, i, _, h => by omega
  | j + 1, i, hi, hj => by
    unfold f12_4
    by_cases hlt : i < l.length
    · rw [decide_eq_true (by omega : (i : Int) < (l.length : Int)), cond_true, if_pos ⟨by omega, by omega⟩, wrapS i (by omega)]
      cases decide ((ByteArray.size (l.getD (i : Int).toNat RTy.str.dflt) : Int) > 600)
      · exact f12_l k l hl j (i + 1) (by omega) (by omega)
      · exact ⟨_, rfl⟩
    · rw [decide_eq_false (by omega : ¬ (i : Int) < (l.length : Int))]; exact ⟨_, rfl⟩

def KJ : Nat := 40000
theorem f13_n (n : Nat) : f13 (n + 600) = some true := by kernel_rfl
theorem f13_J : f13 KJ = some true := f13_n 39400
theorem f3_k (k : Nat) (hk : 40000 ≤ k) (h13 : f13 k = some true) (l : List ByteArray) : f3 k l = some true := by
  have v13e : v13 k = true := by unfold v13; rw [h13]; rfl
  by_cases hl : 100 < l.length
  · have h12 : f12 k l = some true := by
      unfold f12; rw [decide_eq_true (by omega : (l.length : Int) > 100)]; rfl
    have v12e : v12 k l = true := by unfold v12; rw [h12]; rfl
    unfold f3
    rw [h12, v12e, if_some, cond_true, h13, v13e, if_some]
  · obtain ⟨r, h12⟩ : ∃ r, f12 k l = some r := by
      unfold f12; rw [decide_eq_false (by omega : ¬ (l.length : Int) > 100)]
      have := f12_l k l (by omega) k 0 (by omega) (by omega)
      rw [show ((0 : Nat) : Int) = 0 from rfl] at this
      exact this
    have v12e : v12 k l = r := by unfold v12; rw [h12]; rfl
    have h14 : f14 k l = some (fin l (chkAll l)) := by
      unfold f14
      have := f14_a k (by omega) l (by omega) l.length 0 k (by omega) (by omega) (by omega) (fun h => chkAll_in h)
      rw [show ((0 : Nat) : Int) = 0 from rfl, List.drop_zero] at this
      exact this
    have h15 : f15 k l = some (fin l (chkAll l)) := by
      unfold f15
      have := f15_a k (by omega) l (by omega) l.length 0 k (by omega) (by omega) (by omega) (fun h => chkAll_in h)
      rw [show ((0 : Nat) : Int) = 0 from rfl, List.drop_zero] at this
      exact this
    have v14e : v14 k l = fin l (chkAll l) := by unfold v14; rw [h14]; rfl
    have v15e : v15 k l = fin l (chkAll l) := by unfold v15; rw [h15]; rfl
    unfold f3
    rw [h12, v12e, if_some, h13, v13e, h14, h15, v14e, v15e]
    cases r <;> simp
theorem f3_j (l : List ByteArray) : f3 KJ l = some true := f3_k KJ (Nat.le_refl 40000) f13_J l
end Go.AM
