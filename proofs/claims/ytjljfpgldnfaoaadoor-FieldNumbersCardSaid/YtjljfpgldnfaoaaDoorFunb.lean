/- Contracts of the functions that the law reaches, and the plain law. -/
import Derived.Test.YtjljfpgldnfaoaaDoorFuna
namespace Go.AM
open Go Go.Proofs
set_option linter.unusedVariables false
noncomputable section
/-! ### function 19: papermill/field.Lines -/
def K19 (k : Nat) : Calld := ⟨fun g => match g with
  | 16 => some [false]
  | 24 => some [false, false]
  | 36 => some [false, false]
  | _ => none, fun g xs _ => match g with
  | 16 => match xs with
    | [.r (.v (.string line_))] => some (res16 (v16 k line_), bo16 (v16 k line_))
    | _ => none
  | 24 => match xs with
    | [.r (.v (.string s_)), .r (.v (.string suffix_))] => some (res24 (v24 k s_ suffix_), bo24 (v24 k s_ suffix_))
    | _ => none
  | 36 => match xs with
    | [.r (.v (.string s_)), .r (.v (.string sep_))] => some (res36 (v36 k s_ sep_), bo36 (v36 k s_ sep_))
    | _ => none
  | _ => none⟩
abbrev R19 : Type := Int × List (RTy.str.list).T
def res19 (r : R19) : AV := .tup [.own 0 0, .r (.v (.int .i64 r.1))]
def bo19 (r : R19) : List (Nat × Blk) := [(0, .row 22 RTy.str.list r.2)]
def st19_4 (x0 : ByteArray) (x1 : List (RTy.str.list).T) : St := ⟨mkS 46 [(0, .r (.v (.string x0))), (4, .own 1000000 0)], [(1000000, 0, .row 22 RTy.str.list x1)]⟩
def f19_4 (k : Nat) : Nat → ByteArray → List (RTy.str.list).T → Option R19
  | 0, _, _ => none
  | j + 1, x0, x1 =>
    bif (!x0.toList == (ByteArray.mk #[]).toList) then
      if ((f36 k x0 (ByteArray.mk #[10])).isSome = true) then
        if (((v36 k x0 (ByteArray.mk #[(10 : UInt8)])).fst.toList == (ByteArray.mk #[]).toList) = false → (0 : Int) ≤ (0 : Int)) ∧ (((v36 k x0 (ByteArray.mk #[(10 : UInt8)])).fst.toList == (ByteArray.mk #[]).toList) = false → (0 : Int) < (↑ (v36 k x0 (ByteArray.mk #[(10 : UInt8)])).fst.size : Int)) then
          bif ((v36 k x0 (ByteArray.mk #[(10 : UInt8)])).fst.toList == (ByteArray.mk #[]).toList || bAt (v36 k x0 (ByteArray.mk #[(10 : UInt8)])).fst (0 : Int) == (35 : Int)) then
            f19_4 k j ((v36 k x0 (ByteArray.mk #[10])).snd.fst) x1
          else
            if ((f16 k (v36 k x0 (ByteArray.mk #[10])).fst).isSome = true) then
              bif ((v16 k (v36 k x0 (ByteArray.mk #[(10 : UInt8)])).fst).fst != (0 : Int)) then
                some (((v16 k (v36 k x0 (ByteArray.mk #[10])).fst).fst, []))
              else
                if ((x1.length + [(v16 k (v36 k x0 (ByteArray.mk #[(10 : UInt8)])).fst).snd].length) * (24 : Nat) ≤ (140737488355328 : Nat)) then
                  f19_4 k j ((v36 k x0 (ByteArray.mk #[10])).snd.fst) ((x1 ++ [(v16 k (v36 k x0 (ByteArray.mk #[10])).fst).snd]))
                else none
            else none
        else none
      else none
    else
      some ((0, x1))
def f19 (k : Nat) (text_ : ByteArray) : Option R19 :=
  bif (!text_.toList == (ByteArray.mk #[]).toList) then
    if ((!text_.toList == (ByteArray.mk #[]).toList) = true) ∧ ((f24 k text_ (ByteArray.mk #[10])).isSome = true) then
      bif (true && (!v24 k text_ (ByteArray.mk #[(10 : UInt8)]))) then
        some ((3, []))
      else
        f19_4 k k text_ ([])
    else none
  else
    if ((!text_.toList == (ByteArray.mk #[]).toList) = false) then
      f19_4 k k text_ ([])
    else none
def args19 (text_ : ByteArray) : List AV := [.r (.v (.string text_))]
def v19 (k : Nat) (text_ : ByteArray) : R19 := (f19 k text_).getD (0, [])
theorem ev19 (k : Nat) : ∀ j, (∀ (x0 : ByteArray) (x1 : List (RTy.str.list).T) (r : R19), f19_4 k j x0 x1 = some r → Ev Tryd.prog Tryd.f19 0 (placeAt Tryd.f19 4) (st19_4 x0 x1) (res19 r) (bo19 r))
  | 0 => by
    intros; rename_i h; simp [f19_4] at h
  | j + 1 => by
    have ih := ev19 k j
    · intro x0 x1 r h
      rw [f19_4] at h
      refine Ev.tree hm (R := Rt) (K := (K19 k)) (l := []) (C := [(4, [.row 4 22 RTy.str.list, .auto [0, 4] false])]) (E := [.row 2 22 RTy.str.list, .auto [2, 3] true]) (n := 1000) (T := .test ((!x0.toList == (ByteArray.mk #[]).toList)) (.need [CC Tryd.prog 36 (args36 x0 (ByteArray.mk #[10])) [] (res36 (v36 k x0 (ByteArray.mk #[10]))) (bo36 (v36 k x0 (ByteArray.mk #[10])))] (.need [((v36 k x0 (ByteArray.mk #[(10 : UInt8)])).fst.toList == (ByteArray.mk #[]).toList) = false → (0 : Int) ≤ (0 : Int), ((v36 k x0 (ByteArray.mk #[(10 : UInt8)])).fst.toList == (ByteArray.mk #[]).toList) = false → (0 : Int) < (↑ (v36 k x0 (ByteArray.mk #[(10 : UInt8)])).fst.size : Int)] (.test (((v36 k x0 (ByteArray.mk #[(10 : UInt8)])).fst.toList == (ByteArray.mk #[]).toList || bAt (v36 k x0 (ByteArray.mk #[(10 : UInt8)])).fst (0 : Int) == (35 : Int))) (.cut 4 (placeAt Tryd.f19 4) (st19_4 ((v36 k x0 (ByteArray.mk #[10])).snd.fst) x1)) (.need [CC Tryd.prog 16 (args16 (v36 k x0 (ByteArray.mk #[10])).fst) [] (res16 (v16 k (v36 k x0 (ByteArray.mk #[10])).fst)) (bo16 (v16 k (v36 k x0 (ByteArray.mk #[10])).fst))] (.test (((v16 k (v36 k x0 (ByteArray.mk #[(10 : UInt8)])).fst).fst != (0 : Int))) (.leaf (res19 (((v16 k (v36 k x0 (ByteArray.mk #[10])).fst).fst, []))) (bo19 (((v16 k (v36 k x0 (ByteArray.mk #[10])).fst).fst, [])))) (.need [(x1.length + [(v16 k (v36 k x0 (ByteArray.mk #[(10 : UInt8)])).fst).snd].length) * (24 : Nat) ≤ (140737488355328 : Nat)] (.cut 4 (placeAt Tryd.f19 4) (st19_4 ((v36 k x0 (ByteArray.mk #[10])).snd.fst) ((x1 ++ [(v16 k (v36 k x0 (ByteArray.mk #[10])).fst).snd])))))))))) (.leaf (res19 ((0, x1))) (bo19 ((0, x1))))) (by kernel_rfl) ?_
      refine ⟨fun c => ?_, fun c => ?_⟩
      · rw [cond_t c] at h
        by_cases q : ((f36 k x0 (ByteArray.mk #[10])).isSome = true)
        · rw [if_pos q] at h
          refine ⟨(conjC (cc36 k x0 (ByteArray.mk #[10]) q) conj0), ?_⟩
          by_cases q : (((v36 k x0 (ByteArray.mk #[(10 : UInt8)])).fst.toList == (ByteArray.mk #[]).toList) = false → (0 : Int) ≤ (0 : Int)) ∧ (((v36 k x0 (ByteArray.mk #[(10 : UInt8)])).fst.toList == (ByteArray.mk #[]).toList) = false → (0 : Int) < (↑ (v36 k x0 (ByteArray.mk #[(10 : UInt8)])).fst.size : Int))
          · rw [if_pos q] at h
            refine ⟨(conjC q.1 (conjC q.2 conj0)), ?_⟩
            refine ⟨fun c => ?_, fun c => ?_⟩
            · rw [cond_t c] at h
              exact ih ((v36 k x0 (ByteArray.mk #[10])).snd.fst) x1 _ h
            · rw [cond_f c] at h
              by_cases q : ((f16 k (v36 k x0 (ByteArray.mk #[10])).fst).isSome = true)
              · rw [if_pos q] at h
                refine ⟨(conjC (cc16 k (v36 k x0 (ByteArray.mk #[10])).fst q) conj0), ?_⟩
                refine ⟨fun c => ?_, fun c => ?_⟩
                · rw [cond_t c] at h
                  cases h; exact ⟨rfl, rfl⟩
                · rw [cond_f c] at h
                  by_cases q : ((x1.length + [(v16 k (v36 k x0 (ByteArray.mk #[(10 : UInt8)])).fst).snd].length) * (24 : Nat) ≤ (140737488355328 : Nat))
                  · rw [if_pos q] at h
                    refine ⟨(conjC q conj0), ?_⟩
                    exact ih ((v36 k x0 (ByteArray.mk #[10])).snd.fst) ((x1 ++ [(v16 k (v36 k x0 (ByteArray.mk #[10])).fst).snd])) _ h
                  · rw [if_neg q] at h; cases h
              · rw [if_neg q] at h; cases h
          · rw [if_neg q] at h; cases h
        · rw [if_neg q] at h; cases h
      · rw [cond_f c] at h
        cases h; exact ⟨rfl, rfl⟩
theorem of19 (k : Nat) (text_ : ByteArray) (r : R19) (h : f19 k text_ = some r) : CC Tryd.prog 19 (args19 text_) [] (res19 r) (bo19 r) := by
  refine CC.of (fn := Tryd.f19) (by kernel_rfl) (by kernel_rfl) (by kernel_rfl) (by kernel_rfl) ?_
  unfold f19 at h
  refine Ev.tree hm (R := Rt) (K := (K19 k)) (l := []) (C := [(4, [.row 4 22 RTy.str.list, .auto [0, 4] false])]) (E := [.row 2 22 RTy.str.list, .auto [2, 3] true]) (n := 1000) (T := .test ((!text_.toList == (ByteArray.mk #[]).toList)) (.need [(!text_.toList == (ByteArray.mk #[]).toList) = true, CC Tryd.prog 24 (args24 text_ (ByteArray.mk #[10])) [] (res24 (v24 k text_ (ByteArray.mk #[10]))) (bo24 (v24 k text_ (ByteArray.mk #[10])))] (.test ((true && (!v24 k text_ (ByteArray.mk #[(10 : UInt8)])))) (.leaf (res19 ((3, []))) (bo19 ((3, [])))) (.cut 4 (placeAt Tryd.f19 4) (st19_4 text_ ([]))))) (.need [(!text_.toList == (ByteArray.mk #[]).toList) = false] (.test (false) (.leaf (res19 ((3, []))) (bo19 ((3, [])))) (.cut 4 (placeAt Tryd.f19 4) (st19_4 text_ ([])))))) (by kernel_rfl) ?_
  refine ⟨fun c => ?_, fun c => ?_⟩
  · rw [cond_t c] at h
    by_cases q : ((!text_.toList == (ByteArray.mk #[]).toList) = true) ∧ ((f24 k text_ (ByteArray.mk #[10])).isSome = true)
    · rw [if_pos q] at h
      refine ⟨(conjC q.1 (conjC (cc24 k text_ (ByteArray.mk #[10]) q.2) conj0)), ?_⟩
      refine ⟨fun c => ?_, fun c => ?_⟩
      · rw [cond_t c] at h
        cases h; exact ⟨rfl, rfl⟩
      · rw [cond_f c] at h
        exact (ev19 k k) text_ ([]) _ h
    · rw [if_neg q] at h; cases h
  · rw [cond_f c] at h
    by_cases q : ((!text_.toList == (ByteArray.mk #[]).toList) = false)
    · rw [if_pos q] at h
      refine ⟨(conjC q conj0), ?_⟩
      refine ⟨fun c => ?_, fun c => ?_⟩
      · cases c
      exact (ev19 k k) text_ ([]) _ h
    · rw [if_neg q] at h; cases h
theorem cc19 (k : Nat) (text_ : ByteArray) (h : (f19 k text_).isSome = true) : CC Tryd.prog 19 (args19 text_) [] (res19 (v19 k text_)) (bo19 (v19 k text_)) := by
  cases e : f19 k text_ with
  | none => rw [e] at h; cases h
  | some r => rw [show v19 k text_ = r by simp [v19, e]]; exact of19 k text_ r e

end
end Go.AM
namespace Go.AM
open Go Go.Proofs
set_option linter.unusedVariables false
noncomputable section
/-! ### function 21: papermill/papermillref07.SameAll -/
def K21 (k : Nat) : Calld := ⟨fun g => match g with
  | 18 => some [false, false]
  | _ => none, fun g xs _ => match g with
  | 18 => match xs with
    | [.r (.ro t0_ q0), .r (.ro t1_ q1)] => (castL t0_ RTy.str q0).bind fun a_ => (castL t1_ RTy.str q1).bind fun b_ => some (res18 (v18 k a_ b_), bo18 (v18 k a_ b_))
    | _ => none
  | _ => none⟩
abbrev R21 : Type := Bool
def res21 (r : R21) : AV := .r (.v (.bool r))
def bo21 (r : R21) : List (Nat × Blk) := []
def st21_4 (x0 : List (RTy.str.list).T) (x1 : List (RTy.str.list).T) (x2 : Int) : St := ⟨mkS 27 [(0, .r (.ro RTy.str.list x0)), (1, .r (.ro RTy.str.list x1)), (5, .r (.v (.int .i64 x2)))], []⟩
def f21_4 (k : Nat) : Nat → List (RTy.str.list).T → List (RTy.str.list).T → Int → Option R21
  | 0, _, _, _ => none
  | j + 1, x0, x1, x2 =>
    bif (decide (x2 < (↑x0.length : Int))) then
      if ((0 : Int) ≤ x2) ∧ (x2 < (↑x0.length : Int)) ∧ ((0 : Int) ≤ x2) ∧ (x2 < (↑x1.length : Int)) ∧ ((f18 k (x0.getD x2.toNat RTy.str.list.dflt) (x1.getD x2.toNat RTy.str.list.dflt)).isSome = true) then
        bif (!v18 k (x0.getD x2.toNat RTy.str.list.dflt) (x1.getD x2.toNat RTy.str.list.dflt)) then
          some false
        else
          f21_4 k j x0 x1 ((IntKind.i64.wrap (x2 + 1)))
      else none
    else
      some true
def f21 (k : Nat) (a_ : List (RTy.list RTy.str).T) (b_ : List (RTy.list RTy.str).T) : Option R21 :=
  bif ((↑a_.length : Int) != (↑b_.length : Int)) then
    some false
  else
    f21_4 k k a_ b_ 0
def args21 (a_ : List (RTy.list RTy.str).T) (b_ : List (RTy.list RTy.str).T) : List AV := [.r (.ro (RTy.list RTy.str) a_), .r (.ro (RTy.list RTy.str) b_)]
def v21 (k : Nat) (a_ : List (RTy.list RTy.str).T) (b_ : List (RTy.list RTy.str).T) : R21 := (f21 k a_ b_).getD false
theorem ev21 (k : Nat) : ∀ j, (∀ (x0 : List (RTy.str.list).T) (x1 : List (RTy.str.list).T) (x2 : Int) (r : R21), f21_4 k j x0 x1 x2 = some r → Ev Tryd.prog Tryd.f21 0 (placeAt Tryd.f21 4) (st21_4 x0 x1 x2) (res21 r) (bo21 r))
  | 0 => by
    intros; rename_i h; simp [f21_4] at h
  | j + 1 => by
    have ih := ev21 k j
    · intro x0 x1 x2 r h
      rw [f21_4] at h
      refine Ev.tree hm (R := Rt) (K := (K21 k)) (l := []) (C := [(4, [.auto [0, 1, 5] false])]) (E := [.auto [4] true]) (n := 1000) (T := .test ((decide (x2 < (↑x0.length : Int)))) (.need [(0 : Int) ≤ x2, x2 < (↑x0.length : Int), (0 : Int) ≤ x2, x2 < (↑x1.length : Int), CC Tryd.prog 18 (args18 (x0.getD x2.toNat RTy.str.list.dflt) (x1.getD x2.toNat RTy.str.list.dflt)) [] (res18 (v18 k (x0.getD x2.toNat RTy.str.list.dflt) (x1.getD x2.toNat RTy.str.list.dflt))) (bo18 (v18 k (x0.getD x2.toNat RTy.str.list.dflt) (x1.getD x2.toNat RTy.str.list.dflt)))] (.test ((!v18 k (x0.getD x2.toNat RTy.str.list.dflt) (x1.getD x2.toNat RTy.str.list.dflt))) (.leaf (res21 false) (bo21 false)) (.cut 4 (placeAt Tryd.f21 4) (st21_4 x0 x1 ((IntKind.i64.wrap (x2 + 1))))))) (.leaf (res21 true) (bo21 true))) (by kernel_rfl) ?_
      refine ⟨fun c => ?_, fun c => ?_⟩
      · rw [cond_t c] at h
        by_cases q : ((0 : Int) ≤ x2) ∧ (x2 < (↑x0.length : Int)) ∧ ((0 : Int) ≤ x2) ∧ (x2 < (↑x1.length : Int)) ∧ ((f18 k (x0.getD x2.toNat RTy.str.list.dflt) (x1.getD x2.toNat RTy.str.list.dflt)).isSome = true)
        · rw [if_pos q] at h
          refine ⟨(conjC q.1 (conjC q.2.1 (conjC q.2.2.1 (conjC q.2.2.2.1 (conjC (cc18 k (x0.getD x2.toNat RTy.str.list.dflt) (x1.getD x2.toNat RTy.str.list.dflt) q.2.2.2.2) conj0))))), ?_⟩
          refine ⟨fun c => ?_, fun c => ?_⟩
          · rw [cond_t c] at h
            cases h; exact ⟨rfl, rfl⟩
          · rw [cond_f c] at h
            exact ih x0 x1 ((IntKind.i64.wrap (x2 + 1))) _ h
        · rw [if_neg q] at h; cases h
      · rw [cond_f c] at h
        cases h; exact ⟨rfl, rfl⟩
theorem of21 (k : Nat) (a_ : List (RTy.list RTy.str).T) (b_ : List (RTy.list RTy.str).T) (r : R21) (h : f21 k a_ b_ = some r) : CC Tryd.prog 21 (args21 a_ b_) [] (res21 r) (bo21 r) := by
  refine CC.of (fn := Tryd.f21) (by kernel_rfl) (by kernel_rfl) (by kernel_rfl) (by kernel_rfl) ?_
  unfold f21 at h
  refine Ev.tree hm (R := Rt) (K := (K21 k)) (l := []) (C := [(4, [.auto [0, 1, 5] false])]) (E := [.auto [4] true]) (n := 1000) (T := .test (((↑a_.length : Int) != (↑b_.length : Int))) (.leaf (res21 false) (bo21 false)) (.cut 4 (placeAt Tryd.f21 4) (st21_4 a_ b_ 0))) (by kernel_rfl) ?_
  refine ⟨fun c => ?_, fun c => ?_⟩
  · rw [cond_t c] at h
    cases h; exact ⟨rfl, rfl⟩
  · rw [cond_f c] at h
    exact (ev21 k k) a_ b_ 0 _ h
theorem cc21 (k : Nat) (a_ : List (RTy.list RTy.str).T) (b_ : List (RTy.list RTy.str).T) (h : (f21 k a_ b_).isSome = true) : CC Tryd.prog 21 (args21 a_ b_) [] (res21 (v21 k a_ b_)) (bo21 (v21 k a_ b_)) := by
  cases e : f21 k a_ b_ with
  | none => rw [e] at h; cases h
  | some r => rw [show v21 k a_ b_ = r by simp [v21, e]]; exact of21 k a_ b_ r e

end
end Go.AM
namespace Go.AM
open Go Go.Proofs
set_option linter.unusedVariables false
noncomputable section
/-! ### function 52: internal/stringslite.CutPrefix -/
def K52 (k : Nat) : Calld := ⟨fun g => match g with
  | 40 => some [false, false]
  | _ => none, fun g xs _ => match g with
  | 40 => match xs with
    | [.r (.v (.string s_)), .r (.v (.string prefix_))] => some (res40 (v40 k s_ prefix_), bo40 (v40 k s_ prefix_))
    | _ => none
  | _ => none⟩
abbrev R52 : Type := ByteArray × Bool
def res52 (r : R52) : AV := .tup [.r (.v (.string r.1)), .r (.v (.bool r.2))]
def bo52 (r : R52) : List (Nat × Blk) := []
def f52 (k : Nat) (s_ : ByteArray) (prefix_ : ByteArray) : Option R52 :=
  if ((f40 k s_ prefix_).isSome = true) then
    bif (!v40 k s_ prefix_) then
      some ((s_, false))
    else
      if ((0 : Int) ≤ (↑prefix_.size : Int)) ∧ ((↑prefix_.size : Int) ≤ (↑s_.size : Int)) ∧ ((↑s_.size : Int) ≤ (↑s_.size : Int)) then
        some ((s_.extract (↑prefix_.size : Int).toNat (↑s_.size : Int).toNat, true))
      else none
  else none
def args52 (s_ : ByteArray) (prefix_ : ByteArray) : List AV := [.r (.v (.string s_)), .r (.v (.string prefix_))]
def v52 (k : Nat) (s_ : ByteArray) (prefix_ : ByteArray) : R52 := (f52 k s_ prefix_).getD (ByteArray.empty, false)
theorem of52 (k : Nat) (s_ : ByteArray) (prefix_ : ByteArray) (r : R52) (h : f52 k s_ prefix_ = some r) : CC Tryd.prog 52 (args52 s_ prefix_) [] (res52 r) (bo52 r) := by
  refine CC.of (fn := Tryd.f52) (by kernel_rfl) (by kernel_rfl) (by kernel_rfl) (by kernel_rfl) ?_
  unfold f52 at h
  refine Ev.tree hm (R := Rt) (K := (K52 k)) (l := []) (C := []) (E := [.auto [4, 5] true]) (n := 1000) (T := .need [CC Tryd.prog 40 (args40 s_ prefix_) [] (res40 (v40 k s_ prefix_)) (bo40 (v40 k s_ prefix_))] (.test ((!v40 k s_ prefix_)) (.leaf (res52 ((s_, false))) (bo52 ((s_, false)))) (.need [(0 : Int) ≤ (↑prefix_.size : Int), (↑prefix_.size : Int) ≤ (↑s_.size : Int), (↑s_.size : Int) ≤ (↑s_.size : Int)] (.leaf (res52 ((s_.extract (↑prefix_.size : Int).toNat (↑s_.size : Int).toNat, true))) (bo52 ((s_.extract (↑prefix_.size : Int).toNat (↑s_.size : Int).toNat, true))))))) (by kernel_rfl) ?_
  by_cases q : ((f40 k s_ prefix_).isSome = true)
  · rw [if_pos q] at h
    refine ⟨(conjC (cc40 k s_ prefix_ q) conj0), ?_⟩
    refine ⟨fun c => ?_, fun c => ?_⟩
    · rw [cond_t c] at h
      cases h; exact ⟨rfl, rfl⟩
    · rw [cond_f c] at h
      by_cases q : ((0 : Int) ≤ (↑prefix_.size : Int)) ∧ ((↑prefix_.size : Int) ≤ (↑s_.size : Int)) ∧ ((↑s_.size : Int) ≤ (↑s_.size : Int))
      · rw [if_pos q] at h
        refine ⟨(conjC q.1 (conjC q.2.1 (conjC q.2.2 conj0))), ?_⟩
        cases h; exact ⟨rfl, rfl⟩
      · rw [if_neg q] at h; cases h
  · rw [if_neg q] at h; cases h
theorem cc52 (k : Nat) (s_ : ByteArray) (prefix_ : ByteArray) (h : (f52 k s_ prefix_).isSome = true) : CC Tryd.prog 52 (args52 s_ prefix_) [] (res52 (v52 k s_ prefix_)) (bo52 (v52 k s_ prefix_)) := by
  cases e : f52 k s_ prefix_ with
  | none => rw [e] at h; cases h
  | some r => rw [show v52 k s_ prefix_ = r by simp [v52, e]]; exact of52 k s_ prefix_ r e

end
end Go.AM
namespace Go.AM
open Go Go.Proofs
set_option linter.unusedVariables false
noncomputable section
/-! ### function 37: strings.CutPrefix -/
def K37 (k : Nat) : Calld := ⟨fun g => match g with
  | 52 => some [false, false]
  | _ => none, fun g xs _ => match g with
  | 52 => match xs with
    | [.r (.v (.string s_)), .r (.v (.string prefix_))] => some (res52 (v52 k s_ prefix_), bo52 (v52 k s_ prefix_))
    | _ => none
  | _ => none⟩
abbrev R37 : Type := ByteArray × Bool
def res37 (r : R37) : AV := .tup [.r (.v (.string r.1)), .r (.v (.bool r.2))]
def bo37 (r : R37) : List (Nat × Blk) := []
def f37 (k : Nat) (s_ : ByteArray) (prefix_ : ByteArray) : Option R37 :=
  if ((f52 k s_ prefix_).isSome = true) then
    some (((v52 k s_ prefix_).fst, (v52 k s_ prefix_).snd))
  else none
def args37 (s_ : ByteArray) (prefix_ : ByteArray) : List AV := [.r (.v (.string s_)), .r (.v (.string prefix_))]
def v37 (k : Nat) (s_ : ByteArray) (prefix_ : ByteArray) : R37 := (f37 k s_ prefix_).getD (ByteArray.empty, false)
theorem of37 (k : Nat) (s_ : ByteArray) (prefix_ : ByteArray) (r : R37) (h : f37 k s_ prefix_ = some r) : CC Tryd.prog 37 (args37 s_ prefix_) [] (res37 r) (bo37 r) := by
  refine CC.of (fn := Tryd.f37) (by kernel_rfl) (by kernel_rfl) (by kernel_rfl) (by kernel_rfl) ?_
  unfold f37 at h
  refine Ev.tree hm (R := Rt) (K := (K37 k)) (l := []) (C := []) (E := [.auto [4, 5] true]) (n := 1000) (T := .need [CC Tryd.prog 52 (args52 s_ prefix_) [] (res52 (v52 k s_ prefix_)) (bo52 (v52 k s_ prefix_))] (.leaf (res37 (((v52 k s_ prefix_).fst, (v52 k s_ prefix_).snd))) (bo37 (((v52 k s_ prefix_).fst, (v52 k s_ prefix_).snd))))) (by kernel_rfl) ?_
  by_cases q : ((f52 k s_ prefix_).isSome = true)
  · rw [if_pos q] at h
    refine ⟨(conjC (cc52 k s_ prefix_ q) conj0), ?_⟩
    cases h; exact ⟨rfl, rfl⟩
  · rw [if_neg q] at h; cases h
theorem cc37 (k : Nat) (s_ : ByteArray) (prefix_ : ByteArray) (h : (f37 k s_ prefix_).isSome = true) : CC Tryd.prog 37 (args37 s_ prefix_) [] (res37 (v37 k s_ prefix_)) (bo37 (v37 k s_ prefix_)) := by
  cases e : f37 k s_ prefix_ with
  | none => rw [e] at h; cases h
  | some r => rw [show v37 k s_ prefix_ = r by simp [v37, e]]; exact of37 k s_ prefix_ r e

end
end Go.AM
namespace Go.AM
open Go Go.Proofs
set_option linter.unusedVariables false
noncomputable section
/-! ### function 22: papermill/field.Number -/
def K22 (k : Nat) : Calld := ⟨fun g => match g with
  | 37 => some [false, false]
  | _ => none, fun g xs _ => match g with
  | 37 => match xs with
    | [.r (.v (.string s_)), .r (.v (.string prefix_))] => some (res37 (v37 k s_ prefix_), bo37 (v37 k s_ prefix_))
    | _ => none
  | _ => none⟩
abbrev R22 : Type := Int × Int
def res22 (r : R22) : AV := .tup [.r (.v (.int .i64 r.1)), .r (.v (.int .i64 r.2))]
def bo22 (r : R22) : List (Nat × Blk) := []
def st22_6 (x0 : ByteArray) (x1 : Bool) (x2 : Int) (x3 : Bool) (x4 : Int) (x5 : Int) : St := ⟨mkS 54 [(4, .r (.v (.string x0))), (5, .r (.v (.bool x1))), (6, .r (.v (.int .i64 x2))), (7, .r (.v (.bool x3))), (27, .r (.v (.int .i64 x4))), (28, .r (.v (.int .i64 x5)))], []⟩
def f22_6 (k : Nat) : Nat → ByteArray → Bool → Int → Bool → Int → Int → Option R22
  | 0, _, _, _, _, _, _ => none
  | j + 1, x0, x1, x2, x3, x4, x5 =>
    bif (decide (x5 < x4)) then
      if ((0 : Int) ≤ x5) ∧ (x5 < (↑x0.size : Int)) then
        bif (decide (bAt x0 x5 < (48 : Int)) || decide (bAt x0 x5 > (57 : Int))) then
          some ((0, 3))
        else
          bif (decide (IntKind.i64.wrap (IntKind.i64.wrap ((10 : Int) * x2) + IntKind.i64.wrap (IntKind.u8.wrap (bAt x0 x5 - (48 : Int)))) > (1000000000000 : Int))) then
            f22_6 k j x0 x1 0 true x4 ((IntKind.i64.wrap (x5 + 1)))
          else
            f22_6 k j x0 x1 ((IntKind.i64.wrap (IntKind.i64.wrap (10 * x2) + IntKind.i64.wrap (IntKind.u8.wrap (bAt x0 x5 - 48))))) x3 x4 ((IntKind.i64.wrap (x5 + 1)))
      else none
    else
      bif x3 then
        some ((0, 1))
      else
        bif x1 then
          some ((IntKind.i64.wrap (0 - x2), 0))
        else
          some ((x2, 0))
def f22 (k : Nat) (s_ : ByteArray) : Option R22 :=
  if ((f37 k s_ (ByteArray.mk #[45])).isSome = true) then
    if (((v37 k s_ (ByteArray.mk #[(45 : UInt8)])).fst.toList == (ByteArray.mk #[]).toList) = false → (0 : Int) ≤ (0 : Int)) ∧ (((v37 k s_ (ByteArray.mk #[(45 : UInt8)])).fst.toList == (ByteArray.mk #[]).toList) = false → (0 : Int) < (↑ (v37 k s_ (ByteArray.mk #[(45 : UInt8)])).fst.size : Int)) then
      bif ((v37 k s_ (ByteArray.mk #[(45 : UInt8)])).fst.toList == (ByteArray.mk #[]).toList || bAt (v37 k s_ (ByteArray.mk #[(45 : UInt8)])).fst (0 : Int) == (48 : Int) && !s_.toList == (ByteArray.mk #[(48 : UInt8)]).toList) then
        some ((0, 3))
      else
        f22_6 k k ((v37 k s_ (ByteArray.mk #[45])).fst) ((v37 k s_ (ByteArray.mk #[45])).snd) 0 false ((↑ (v37 k s_ (ByteArray.mk #[45])).fst.size : Int)) 0
    else none
  else none
def args22 (s_ : ByteArray) : List AV := [.r (.v (.string s_))]
def v22 (k : Nat) (s_ : ByteArray) : R22 := (f22 k s_).getD (0, 0)
theorem ev22 (k : Nat) : ∀ j, (∀ (x0 : ByteArray) (x1 : Bool) (x2 : Int) (x3 : Bool) (x4 : Int) (x5 : Int) (r : R22), f22_6 k j x0 x1 x2 x3 x4 x5 = some r → Ev Tryd.prog Tryd.f22 0 (placeAt Tryd.f22 6) (st22_6 x0 x1 x2 x3 x4 x5) (res22 r) (bo22 r))
  | 0 => by
    intros; rename_i h; simp [f22_6] at h
  | j + 1 => by
    have ih := ev22 k j
    · intro x0 x1 x2 x3 x4 x5 r h
      rw [f22_6] at h
      refine Ev.tree hm (R := Rt) (K := (K22 k)) (l := []) (C := [(6, [.auto [4, 5, 6, 7, 27, 28] false])]) (E := [.auto [2, 3] true]) (n := 1000) (T := .test ((decide (x5 < x4))) (.need [(0 : Int) ≤ x5, x5 < (↑x0.size : Int)] (.test ((decide (bAt x0 x5 < (48 : Int)) || decide (bAt x0 x5 > (57 : Int)))) (.leaf (res22 ((0, 3))) (bo22 ((0, 3)))) (.test ((decide (IntKind.i64.wrap (IntKind.i64.wrap ((10 : Int) * x2) + IntKind.i64.wrap (IntKind.u8.wrap (bAt x0 x5 - (48 : Int)))) > (1000000000000 : Int)))) (.cut 6 (placeAt Tryd.f22 6) (st22_6 x0 x1 0 true x4 ((IntKind.i64.wrap (x5 + 1))))) (.cut 6 (placeAt Tryd.f22 6) (st22_6 x0 x1 ((IntKind.i64.wrap (IntKind.i64.wrap (10 * x2) + IntKind.i64.wrap (IntKind.u8.wrap (bAt x0 x5 - 48))))) x3 x4 ((IntKind.i64.wrap (x5 + 1)))))))) (.test (x3) (.leaf (res22 ((0, 1))) (bo22 ((0, 1)))) (.test (x1) (.leaf (res22 ((IntKind.i64.wrap (0 - x2), 0))) (bo22 ((IntKind.i64.wrap (0 - x2), 0)))) (.leaf (res22 ((x2, 0))) (bo22 ((x2, 0))))))) (by kernel_rfl) ?_
      refine ⟨fun c => ?_, fun c => ?_⟩
      · rw [cond_t c] at h
        by_cases q : ((0 : Int) ≤ x5) ∧ (x5 < (↑x0.size : Int))
        · rw [if_pos q] at h
          refine ⟨(conjC q.1 (conjC q.2 conj0)), ?_⟩
          refine ⟨fun c => ?_, fun c => ?_⟩
          · rw [cond_t c] at h
            cases h; exact ⟨rfl, rfl⟩
          · rw [cond_f c] at h
            refine ⟨fun c => ?_, fun c => ?_⟩
            · rw [cond_t c] at h
              exact ih x0 x1 0 true x4 ((IntKind.i64.wrap (x5 + 1))) _ h
            · rw [cond_f c] at h
              exact ih x0 x1 ((IntKind.i64.wrap (IntKind.i64.wrap (10 * x2) + IntKind.i64.wrap (IntKind.u8.wrap (bAt x0 x5 - 48))))) x3 x4 ((IntKind.i64.wrap (x5 + 1))) _ h
        · rw [if_neg q] at h; cases h
      · rw [cond_f c] at h
        refine ⟨fun c => ?_, fun c => ?_⟩
        · rw [cond_t c] at h
          cases h; exact ⟨rfl, rfl⟩
        · rw [cond_f c] at h
          refine ⟨fun c => ?_, fun c => ?_⟩
          · rw [cond_t c] at h
            cases h; exact ⟨rfl, rfl⟩
          · rw [cond_f c] at h
            cases h; exact ⟨rfl, rfl⟩
theorem of22 (k : Nat) (s_ : ByteArray) (r : R22) (h : f22 k s_ = some r) : CC Tryd.prog 22 (args22 s_) [] (res22 r) (bo22 r) := by
  refine CC.of (fn := Tryd.f22) (by kernel_rfl) (by kernel_rfl) (by kernel_rfl) (by kernel_rfl) ?_
  unfold f22 at h
  refine Ev.tree hm (R := Rt) (K := (K22 k)) (l := []) (C := [(6, [.auto [4, 5, 6, 7, 27, 28] false])]) (E := [.auto [2, 3] true]) (n := 1000) (T := .need [CC Tryd.prog 37 (args37 s_ (ByteArray.mk #[45])) [] (res37 (v37 k s_ (ByteArray.mk #[45]))) (bo37 (v37 k s_ (ByteArray.mk #[45])))] (.need [((v37 k s_ (ByteArray.mk #[(45 : UInt8)])).fst.toList == (ByteArray.mk #[]).toList) = false → (0 : Int) ≤ (0 : Int), ((v37 k s_ (ByteArray.mk #[(45 : UInt8)])).fst.toList == (ByteArray.mk #[]).toList) = false → (0 : Int) < (↑ (v37 k s_ (ByteArray.mk #[(45 : UInt8)])).fst.size : Int)] (.test (((v37 k s_ (ByteArray.mk #[(45 : UInt8)])).fst.toList == (ByteArray.mk #[]).toList || bAt (v37 k s_ (ByteArray.mk #[(45 : UInt8)])).fst (0 : Int) == (48 : Int) && !s_.toList == (ByteArray.mk #[(48 : UInt8)]).toList)) (.leaf (res22 ((0, 3))) (bo22 ((0, 3)))) (.cut 6 (placeAt Tryd.f22 6) (st22_6 ((v37 k s_ (ByteArray.mk #[45])).fst) ((v37 k s_ (ByteArray.mk #[45])).snd) 0 false ((↑ (v37 k s_ (ByteArray.mk #[45])).fst.size : Int)) 0))))) (by kernel_rfl) ?_
  by_cases q : ((f37 k s_ (ByteArray.mk #[45])).isSome = true)
  · rw [if_pos q] at h
    refine ⟨(conjC (cc37 k s_ (ByteArray.mk #[45]) q) conj0), ?_⟩
    by_cases q : (((v37 k s_ (ByteArray.mk #[(45 : UInt8)])).fst.toList == (ByteArray.mk #[]).toList) = false → (0 : Int) ≤ (0 : Int)) ∧ (((v37 k s_ (ByteArray.mk #[(45 : UInt8)])).fst.toList == (ByteArray.mk #[]).toList) = false → (0 : Int) < (↑ (v37 k s_ (ByteArray.mk #[(45 : UInt8)])).fst.size : Int))
    · rw [if_pos q] at h
      refine ⟨(conjC q.1 (conjC q.2 conj0)), ?_⟩
      refine ⟨fun c => ?_, fun c => ?_⟩
      · rw [cond_t c] at h
        cases h; exact ⟨rfl, rfl⟩
      · rw [cond_f c] at h
        exact (ev22 k k) ((v37 k s_ (ByteArray.mk #[45])).fst) ((v37 k s_ (ByteArray.mk #[45])).snd) 0 false ((↑ (v37 k s_ (ByteArray.mk #[45])).fst.size : Int)) 0 _ h
    · rw [if_neg q] at h; cases h
  · rw [if_neg q] at h; cases h
theorem cc22 (k : Nat) (s_ : ByteArray) (h : (f22 k s_).isSome = true) : CC Tryd.prog 22 (args22 s_) [] (res22 (v22 k s_)) (bo22 (v22 k s_)) := by
  cases e : f22 k s_ with
  | none => rw [e] at h; cases h
  | some r => rw [show v22 k s_ = r by simp [v22, e]]; exact of22 k s_ r e

end
end Go.AM
namespace Go.AM
open Go Go.Proofs
set_option linter.unusedVariables false
noncomputable section
def bs_H07f13_0 : ByteArray := ByteArray.mk #[35, 32, 120, 10, 97, 32, 98, 10, 10]
def bs_H07f13_1 : ByteArray := ByteArray.mk #[49, 48, 48, 48, 48, 48, 48, 48, 48, 48, 48, 48, 49]
def bs_H07f13_2 : ByteArray := ByteArray.mk #[45, 49, 48, 48, 48, 48, 48, 48, 48, 48, 48, 48, 48, 48]
def bs_H07f13_3 : ByteArray := ByteArray.mk #[(97 : UInt8), (32 : UInt8), (34 : UInt8), (34 : UInt8), (32 : UInt8), (34 : UInt8), (98 : UInt8), (92 : UInt8), (34 : UInt8), (99 : UInt8), (34 : UInt8)]
def bs_H07f13_4 : ByteArray := ByteArray.mk #[(35 : UInt8), (32 : UInt8), (120 : UInt8), (10 : UInt8), (97 : UInt8), (32 : UInt8), (98 : UInt8), (10 : UInt8), (10 : UInt8)]
/-! ### function 13: papermill/papermilllaw07.awake -/
def K13 (k : Nat) : Calld := ⟨fun g => match g with
  | 14 => some [false]
  | 16 => some [false]
  | 18 => some [false, false]
  | 19 => some [false]
  | 21 => some [false, false]
  | 22 => some [false]
  | _ => none, fun g xs _ => match g with
  | 14 => match xs with
    | [.r (.ro t0_ q0)] => (castL t0_ RTy.str q0).bind fun fields_ => some (res14 (v14 k fields_), bo14 (v14 k fields_))
    | _ => none
  | 16 => match xs with
    | [.r (.v (.string line_))] => some (res16 (v16 k line_), bo16 (v16 k line_))
    | _ => none
  | 18 => match xs with
    | [.r (.ro t0_ q0), .r (.ro t1_ q1)] => (castL t0_ RTy.str q0).bind fun a_ => (castL t1_ RTy.str q1).bind fun b_ => some (res18 (v18 k a_ b_), bo18 (v18 k a_ b_))
    | _ => none
  | 19 => match xs with
    | [.r (.v (.string text_))] => some (res19 (v19 k text_), bo19 (v19 k text_))
    | _ => none
  | 21 => match xs with
    | [.r (.ro t0_ q0), .r (.ro t1_ q1)] => (castL t0_ (RTy.list RTy.str) q0).bind fun a_ => (castL t1_ (RTy.list RTy.str) q1).bind fun b_ => some (res21 (v21 k a_ b_), bo21 (v21 k a_ b_))
    | _ => none
  | 22 => match xs with
    | [.r (.v (.string s_))] => some (res22 (v22 k s_), bo22 (v22 k s_))
    | _ => none
  | _ => none⟩
abbrev R13 : Type := Bool
def res13 (r : R13) : AV := .r (.v (.bool r))
def bo13 (r : R13) : List (Nat × Blk) := []
def f13 (k : Nat)  : Option R13 :=
  if ((f14 k [(ByteArray.mk #[97]), (ByteArray.mk #[]), (ByteArray.mk #[98, 34, 99])]).isSome = true) then
    if ((f16 k (v14 k [(ByteArray.mk #[97]), (ByteArray.mk #[]), (ByteArray.mk #[98, 34, 99])]).fst).isSome = true) then
      if ((f16 k (ByteArray.mk #[97, 32, 32, 98])).isSome = true) then
        if ((f16 k (ByteArray.mk #[34, 97, 34])).isSome = true) then
          if ((f16 k (ByteArray.mk #[97, 34, 98])).isSome = true) then
            if ((f19 k bs_H07f13_0).isSome = true) then
              if ((f22 k (ByteArray.mk #[45, 48])).isSome = true) then
                if ((f22 k bs_H07f13_1).isSome = true) then
                  if ((f22 k bs_H07f13_2).isSome = true) then
                    bif ((v14 k [(ByteArray.mk #[(97 : UInt8)]), (ByteArray.mk #[]), (ByteArray.mk #[(98 : UInt8), (34 : UInt8), (99 : UInt8)])]).snd == (0 : Int) && (v14 k [(ByteArray.mk #[(97 : UInt8)]), (ByteArray.mk #[]), (ByteArray.mk #[(98 : UInt8), (34 : UInt8), (99 : UInt8)])]).fst.toList == bs_H07f13_3.toList && (v16 k (v14 k [(ByteArray.mk #[(97 : UInt8)]), (ByteArray.mk #[]), (ByteArray.mk #[(98 : UInt8), (34 : UInt8), (99 : UInt8)])]).fst).fst == (0 : Int)) then
                      bif (true && v18 k (v16 k (v14 k [(ByteArray.mk #[(97 : UInt8)]), (ByteArray.mk #[]), (ByteArray.mk #[(98 : UInt8), (34 : UInt8), (99 : UInt8)])]).fst).snd [(ByteArray.mk #[(97 : UInt8)]), (ByteArray.mk #[]), (ByteArray.mk #[(98 : UInt8), (34 : UInt8), (99 : UInt8)])] && (v16 k (ByteArray.mk #[(97 : UInt8), (32 : UInt8), (32 : UInt8), (98 : UInt8)])).fst == (3 : Int) && (v16 k (ByteArray.mk #[(34 : UInt8), (97 : UInt8), (34 : UInt8)])).fst == (3 : Int) && (v16 k (ByteArray.mk #[(97 : UInt8), (34 : UInt8), (98 : UInt8)])).fst == (3 : Int) && (v19 k bs_H07f13_4).fst == (0 : Int)) then
                        if (((v14 k [(ByteArray.mk #[(97 : UInt8)]), (ByteArray.mk #[]), (ByteArray.mk #[(98 : UInt8), (34 : UInt8), (99 : UInt8)])]).snd == (0 : Int) && (v14 k [(ByteArray.mk #[(97 : UInt8)]), (ByteArray.mk #[]), (ByteArray.mk #[(98 : UInt8), (34 : UInt8), (99 : UInt8)])]).fst.toList == bs_H07f13_3.toList && (v16 k (v14 k [(ByteArray.mk #[(97 : UInt8)]), (ByteArray.mk #[]), (ByteArray.mk #[(98 : UInt8), (34 : UInt8), (99 : UInt8)])]).fst).fst == (0 : Int)) = true) ∧ ((f18 k (v16 k (v14 k [(ByteArray.mk #[97]), (ByteArray.mk #[]), (ByteArray.mk #[98, 34, 99])]).fst).snd [(ByteArray.mk #[97]), (ByteArray.mk #[]), (ByteArray.mk #[98, 34, 99])]).isSome = true) ∧ ((true && v18 k (v16 k (v14 k [(ByteArray.mk #[(97 : UInt8)]), (ByteArray.mk #[]), (ByteArray.mk #[(98 : UInt8), (34 : UInt8), (99 : UInt8)])]).fst).snd [(ByteArray.mk #[(97 : UInt8)]), (ByteArray.mk #[]), (ByteArray.mk #[(98 : UInt8), (34 : UInt8), (99 : UInt8)])] && (v16 k (ByteArray.mk #[(97 : UInt8), (32 : UInt8), (32 : UInt8), (98 : UInt8)])).fst == (3 : Int) && (v16 k (ByteArray.mk #[(34 : UInt8), (97 : UInt8), (34 : UInt8)])).fst == (3 : Int) && (v16 k (ByteArray.mk #[(97 : UInt8), (34 : UInt8), (98 : UInt8)])).fst == (3 : Int) && (v19 k bs_H07f13_4).fst == (0 : Int)) = true) ∧ ((f21 k (v19 k bs_H07f13_0).snd [[(ByteArray.mk #[97]), (ByteArray.mk #[98])]]).isSome = true) then
                          some (true && v21 k (v19 k bs_H07f13_0).snd [[(ByteArray.mk #[97]), (ByteArray.mk #[98])]] && (v22 k (ByteArray.mk #[45, 48])).snd == 3 && (v22 k bs_H07f13_1).snd == 1 && (v22 k bs_H07f13_2).fst == (-1000000000000) && (v22 k bs_H07f13_2).snd == 0)
                        else none
                      else
                        if (((v14 k [(ByteArray.mk #[(97 : UInt8)]), (ByteArray.mk #[]), (ByteArray.mk #[(98 : UInt8), (34 : UInt8), (99 : UInt8)])]).snd == (0 : Int) && (v14 k [(ByteArray.mk #[(97 : UInt8)]), (ByteArray.mk #[]), (ByteArray.mk #[(98 : UInt8), (34 : UInt8), (99 : UInt8)])]).fst.toList == bs_H07f13_3.toList && (v16 k (v14 k [(ByteArray.mk #[(97 : UInt8)]), (ByteArray.mk #[]), (ByteArray.mk #[(98 : UInt8), (34 : UInt8), (99 : UInt8)])]).fst).fst == (0 : Int)) = true) ∧ ((f18 k (v16 k (v14 k [(ByteArray.mk #[97]), (ByteArray.mk #[]), (ByteArray.mk #[98, 34, 99])]).fst).snd [(ByteArray.mk #[97]), (ByteArray.mk #[]), (ByteArray.mk #[98, 34, 99])]).isSome = true) ∧ ((true && v18 k (v16 k (v14 k [(ByteArray.mk #[(97 : UInt8)]), (ByteArray.mk #[]), (ByteArray.mk #[(98 : UInt8), (34 : UInt8), (99 : UInt8)])]).fst).snd [(ByteArray.mk #[(97 : UInt8)]), (ByteArray.mk #[]), (ByteArray.mk #[(98 : UInt8), (34 : UInt8), (99 : UInt8)])] && (v16 k (ByteArray.mk #[(97 : UInt8), (32 : UInt8), (32 : UInt8), (98 : UInt8)])).fst == (3 : Int) && (v16 k (ByteArray.mk #[(34 : UInt8), (97 : UInt8), (34 : UInt8)])).fst == (3 : Int) && (v16 k (ByteArray.mk #[(97 : UInt8), (34 : UInt8), (98 : UInt8)])).fst == (3 : Int) && (v19 k bs_H07f13_4).fst == (0 : Int)) = false) then
                          some (false && (v22 k (ByteArray.mk #[45, 48])).snd == 3 && (v22 k bs_H07f13_1).snd == 1 && (v22 k bs_H07f13_2).fst == (-1000000000000) && (v22 k bs_H07f13_2).snd == 0)
                        else none
                    else
                      bif (false && (v16 k (ByteArray.mk #[(97 : UInt8), (32 : UInt8), (32 : UInt8), (98 : UInt8)])).fst == (3 : Int) && (v16 k (ByteArray.mk #[(34 : UInt8), (97 : UInt8), (34 : UInt8)])).fst == (3 : Int) && (v16 k (ByteArray.mk #[(97 : UInt8), (34 : UInt8), (98 : UInt8)])).fst == (3 : Int) && (v19 k bs_H07f13_4).fst == (0 : Int)) then
                        if (((v14 k [(ByteArray.mk #[(97 : UInt8)]), (ByteArray.mk #[]), (ByteArray.mk #[(98 : UInt8), (34 : UInt8), (99 : UInt8)])]).snd == (0 : Int) && (v14 k [(ByteArray.mk #[(97 : UInt8)]), (ByteArray.mk #[]), (ByteArray.mk #[(98 : UInt8), (34 : UInt8), (99 : UInt8)])]).fst.toList == bs_H07f13_3.toList && (v16 k (v14 k [(ByteArray.mk #[(97 : UInt8)]), (ByteArray.mk #[]), (ByteArray.mk #[(98 : UInt8), (34 : UInt8), (99 : UInt8)])]).fst).fst == (0 : Int)) = false) ∧ ((false && (v16 k (ByteArray.mk #[(97 : UInt8), (32 : UInt8), (32 : UInt8), (98 : UInt8)])).fst == (3 : Int) && (v16 k (ByteArray.mk #[(34 : UInt8), (97 : UInt8), (34 : UInt8)])).fst == (3 : Int) && (v16 k (ByteArray.mk #[(97 : UInt8), (34 : UInt8), (98 : UInt8)])).fst == (3 : Int) && (v19 k bs_H07f13_4).fst == (0 : Int)) = true) ∧ ((f21 k (v19 k bs_H07f13_0).snd [[(ByteArray.mk #[97]), (ByteArray.mk #[98])]]).isSome = true) then
                          some (true && v21 k (v19 k bs_H07f13_0).snd [[(ByteArray.mk #[97]), (ByteArray.mk #[98])]] && (v22 k (ByteArray.mk #[45, 48])).snd == 3 && (v22 k bs_H07f13_1).snd == 1 && (v22 k bs_H07f13_2).fst == (-1000000000000) && (v22 k bs_H07f13_2).snd == 0)
                        else none
                      else
                        if (((v14 k [(ByteArray.mk #[(97 : UInt8)]), (ByteArray.mk #[]), (ByteArray.mk #[(98 : UInt8), (34 : UInt8), (99 : UInt8)])]).snd == (0 : Int) && (v14 k [(ByteArray.mk #[(97 : UInt8)]), (ByteArray.mk #[]), (ByteArray.mk #[(98 : UInt8), (34 : UInt8), (99 : UInt8)])]).fst.toList == bs_H07f13_3.toList && (v16 k (v14 k [(ByteArray.mk #[(97 : UInt8)]), (ByteArray.mk #[]), (ByteArray.mk #[(98 : UInt8), (34 : UInt8), (99 : UInt8)])]).fst).fst == (0 : Int)) = false) ∧ ((false && (v16 k (ByteArray.mk #[(97 : UInt8), (32 : UInt8), (32 : UInt8), (98 : UInt8)])).fst == (3 : Int) && (v16 k (ByteArray.mk #[(34 : UInt8), (97 : UInt8), (34 : UInt8)])).fst == (3 : Int) && (v16 k (ByteArray.mk #[(97 : UInt8), (34 : UInt8), (98 : UInt8)])).fst == (3 : Int) && (v19 k bs_H07f13_4).fst == (0 : Int)) = false) then
                          some (false && (v22 k (ByteArray.mk #[45, 48])).snd == 3 && (v22 k bs_H07f13_1).snd == 1 && (v22 k bs_H07f13_2).fst == (-1000000000000) && (v22 k bs_H07f13_2).snd == 0)
                        else none
                  else none
                else none
              else none
            else none
          else none
        else none
      else none
    else none
  else none
def args13  : List AV := []
def v13 (k : Nat)  : R13 := (f13 k ).getD false
theorem of13 (k : Nat)  (r : R13) (h : f13 k  = some r) : CC Tryd.prog 13 (args13 ) [] (res13 r) (bo13 r) := by
  refine CC.of (fn := Tryd.f13) (by kernel_rfl) (by kernel_rfl) (by kernel_rfl) (by kernel_rfl) ?_
  unfold f13 at h
  refine Ev.tree hm (R := Rt) (K := (K13 k)) (l := []) (C := []) (E := [.auto [0] true]) (n := 1000) (T := .need [CC Tryd.prog 14 (args14 [(ByteArray.mk #[97]), (ByteArray.mk #[]), (ByteArray.mk #[98, 34, 99])]) [] (res14 (v14 k [(ByteArray.mk #[97]), (ByteArray.mk #[]), (ByteArray.mk #[98, 34, 99])])) (bo14 (v14 k [(ByteArray.mk #[97]), (ByteArray.mk #[]), (ByteArray.mk #[98, 34, 99])]))] (.need [CC Tryd.prog 16 (args16 (v14 k [(ByteArray.mk #[97]), (ByteArray.mk #[]), (ByteArray.mk #[98, 34, 99])]).fst) [] (res16 (v16 k (v14 k [(ByteArray.mk #[97]), (ByteArray.mk #[]), (ByteArray.mk #[98, 34, 99])]).fst)) (bo16 (v16 k (v14 k [(ByteArray.mk #[97]), (ByteArray.mk #[]), (ByteArray.mk #[98, 34, 99])]).fst))] (.need [CC Tryd.prog 16 (args16 (ByteArray.mk #[97, 32, 32, 98])) [] (res16 (v16 k (ByteArray.mk #[97, 32, 32, 98]))) (bo16 (v16 k (ByteArray.mk #[97, 32, 32, 98])))] (.need [CC Tryd.prog 16 (args16 (ByteArray.mk #[34, 97, 34])) [] (res16 (v16 k (ByteArray.mk #[34, 97, 34]))) (bo16 (v16 k (ByteArray.mk #[34, 97, 34])))] (.need [CC Tryd.prog 16 (args16 (ByteArray.mk #[97, 34, 98])) [] (res16 (v16 k (ByteArray.mk #[97, 34, 98]))) (bo16 (v16 k (ByteArray.mk #[97, 34, 98])))] (.need [CC Tryd.prog 19 (args19 bs_H07f13_0) [] (res19 (v19 k bs_H07f13_0)) (bo19 (v19 k bs_H07f13_0))] (.need [CC Tryd.prog 22 (args22 (ByteArray.mk #[45, 48])) [] (res22 (v22 k (ByteArray.mk #[45, 48]))) (bo22 (v22 k (ByteArray.mk #[45, 48])))] (.need [CC Tryd.prog 22 (args22 bs_H07f13_1) [] (res22 (v22 k bs_H07f13_1)) (bo22 (v22 k bs_H07f13_1))] (.need [CC Tryd.prog 22 (args22 bs_H07f13_2) [] (res22 (v22 k bs_H07f13_2)) (bo22 (v22 k bs_H07f13_2))] (.test (((v14 k [(ByteArray.mk #[(97 : UInt8)]), (ByteArray.mk #[]), (ByteArray.mk #[(98 : UInt8), (34 : UInt8), (99 : UInt8)])]).snd == (0 : Int) && (v14 k [(ByteArray.mk #[(97 : UInt8)]), (ByteArray.mk #[]), (ByteArray.mk #[(98 : UInt8), (34 : UInt8), (99 : UInt8)])]).fst.toList == bs_H07f13_3.toList && (v16 k (v14 k [(ByteArray.mk #[(97 : UInt8)]), (ByteArray.mk #[]), (ByteArray.mk #[(98 : UInt8), (34 : UInt8), (99 : UInt8)])]).fst).fst == (0 : Int))) (.test ((true && v18 k (v16 k (v14 k [(ByteArray.mk #[(97 : UInt8)]), (ByteArray.mk #[]), (ByteArray.mk #[(98 : UInt8), (34 : UInt8), (99 : UInt8)])]).fst).snd [(ByteArray.mk #[(97 : UInt8)]), (ByteArray.mk #[]), (ByteArray.mk #[(98 : UInt8), (34 : UInt8), (99 : UInt8)])] && (v16 k (ByteArray.mk #[(97 : UInt8), (32 : UInt8), (32 : UInt8), (98 : UInt8)])).fst == (3 : Int) && (v16 k (ByteArray.mk #[(34 : UInt8), (97 : UInt8), (34 : UInt8)])).fst == (3 : Int) && (v16 k (ByteArray.mk #[(97 : UInt8), (34 : UInt8), (98 : UInt8)])).fst == (3 : Int) && (v19 k bs_H07f13_4).fst == (0 : Int))) (.need [((v14 k [(ByteArray.mk #[(97 : UInt8)]), (ByteArray.mk #[]), (ByteArray.mk #[(98 : UInt8), (34 : UInt8), (99 : UInt8)])]).snd == (0 : Int) && (v14 k [(ByteArray.mk #[(97 : UInt8)]), (ByteArray.mk #[]), (ByteArray.mk #[(98 : UInt8), (34 : UInt8), (99 : UInt8)])]).fst.toList == bs_H07f13_3.toList && (v16 k (v14 k [(ByteArray.mk #[(97 : UInt8)]), (ByteArray.mk #[]), (ByteArray.mk #[(98 : UInt8), (34 : UInt8), (99 : UInt8)])]).fst).fst == (0 : Int)) = true, CC Tryd.prog 18 (args18 (v16 k (v14 k [(ByteArray.mk #[97]), (ByteArray.mk #[]), (ByteArray.mk #[98, 34, 99])]).fst).snd [(ByteArray.mk #[97]), (ByteArray.mk #[]), (ByteArray.mk #[98, 34, 99])]) [] (res18 (v18 k (v16 k (v14 k [(ByteArray.mk #[97]), (ByteArray.mk #[]), (ByteArray.mk #[98, 34, 99])]).fst).snd [(ByteArray.mk #[97]), (ByteArray.mk #[]), (ByteArray.mk #[98, 34, 99])])) (bo18 (v18 k (v16 k (v14 k [(ByteArray.mk #[97]), (ByteArray.mk #[]), (ByteArray.mk #[98, 34, 99])]).fst).snd [(ByteArray.mk #[97]), (ByteArray.mk #[]), (ByteArray.mk #[98, 34, 99])])), (true && v18 k (v16 k (v14 k [(ByteArray.mk #[(97 : UInt8)]), (ByteArray.mk #[]), (ByteArray.mk #[(98 : UInt8), (34 : UInt8), (99 : UInt8)])]).fst).snd [(ByteArray.mk #[(97 : UInt8)]), (ByteArray.mk #[]), (ByteArray.mk #[(98 : UInt8), (34 : UInt8), (99 : UInt8)])] && (v16 k (ByteArray.mk #[(97 : UInt8), (32 : UInt8), (32 : UInt8), (98 : UInt8)])).fst == (3 : Int) && (v16 k (ByteArray.mk #[(34 : UInt8), (97 : UInt8), (34 : UInt8)])).fst == (3 : Int) && (v16 k (ByteArray.mk #[(97 : UInt8), (34 : UInt8), (98 : UInt8)])).fst == (3 : Int) && (v19 k bs_H07f13_4).fst == (0 : Int)) = true, CC Tryd.prog 21 (args21 (v19 k bs_H07f13_0).snd [[(ByteArray.mk #[97]), (ByteArray.mk #[98])]]) [] (res21 (v21 k (v19 k bs_H07f13_0).snd [[(ByteArray.mk #[97]), (ByteArray.mk #[98])]])) (bo21 (v21 k (v19 k bs_H07f13_0).snd [[(ByteArray.mk #[97]), (ByteArray.mk #[98])]]))] (.leaf (res13 (true && v21 k (v19 k bs_H07f13_0).snd [[(ByteArray.mk #[97]), (ByteArray.mk #[98])]] && (v22 k (ByteArray.mk #[45, 48])).snd == 3 && (v22 k bs_H07f13_1).snd == 1 && (v22 k bs_H07f13_2).fst == (-1000000000000) && (v22 k bs_H07f13_2).snd == 0)) (bo13 (true && v21 k (v19 k bs_H07f13_0).snd [[(ByteArray.mk #[97]), (ByteArray.mk #[98])]] && (v22 k (ByteArray.mk #[45, 48])).snd == 3 && (v22 k bs_H07f13_1).snd == 1 && (v22 k bs_H07f13_2).fst == (-1000000000000) && (v22 k bs_H07f13_2).snd == 0)))) (.need [((v14 k [(ByteArray.mk #[(97 : UInt8)]), (ByteArray.mk #[]), (ByteArray.mk #[(98 : UInt8), (34 : UInt8), (99 : UInt8)])]).snd == (0 : Int) && (v14 k [(ByteArray.mk #[(97 : UInt8)]), (ByteArray.mk #[]), (ByteArray.mk #[(98 : UInt8), (34 : UInt8), (99 : UInt8)])]).fst.toList == bs_H07f13_3.toList && (v16 k (v14 k [(ByteArray.mk #[(97 : UInt8)]), (ByteArray.mk #[]), (ByteArray.mk #[(98 : UInt8), (34 : UInt8), (99 : UInt8)])]).fst).fst == (0 : Int)) = true, CC Tryd.prog 18 (args18 (v16 k (v14 k [(ByteArray.mk #[97]), (ByteArray.mk #[]), (ByteArray.mk #[98, 34, 99])]).fst).snd [(ByteArray.mk #[97]), (ByteArray.mk #[]), (ByteArray.mk #[98, 34, 99])]) [] (res18 (v18 k (v16 k (v14 k [(ByteArray.mk #[97]), (ByteArray.mk #[]), (ByteArray.mk #[98, 34, 99])]).fst).snd [(ByteArray.mk #[97]), (ByteArray.mk #[]), (ByteArray.mk #[98, 34, 99])])) (bo18 (v18 k (v16 k (v14 k [(ByteArray.mk #[97]), (ByteArray.mk #[]), (ByteArray.mk #[98, 34, 99])]).fst).snd [(ByteArray.mk #[97]), (ByteArray.mk #[]), (ByteArray.mk #[98, 34, 99])])), (true && v18 k (v16 k (v14 k [(ByteArray.mk #[(97 : UInt8)]), (ByteArray.mk #[]), (ByteArray.mk #[(98 : UInt8), (34 : UInt8), (99 : UInt8)])]).fst).snd [(ByteArray.mk #[(97 : UInt8)]), (ByteArray.mk #[]), (ByteArray.mk #[(98 : UInt8), (34 : UInt8), (99 : UInt8)])] && (v16 k (ByteArray.mk #[(97 : UInt8), (32 : UInt8), (32 : UInt8), (98 : UInt8)])).fst == (3 : Int) && (v16 k (ByteArray.mk #[(34 : UInt8), (97 : UInt8), (34 : UInt8)])).fst == (3 : Int) && (v16 k (ByteArray.mk #[(97 : UInt8), (34 : UInt8), (98 : UInt8)])).fst == (3 : Int) && (v19 k bs_H07f13_4).fst == (0 : Int)) = false] (.leaf (res13 (false && (v22 k (ByteArray.mk #[45, 48])).snd == 3 && (v22 k bs_H07f13_1).snd == 1 && (v22 k bs_H07f13_2).fst == (-1000000000000) && (v22 k bs_H07f13_2).snd == 0)) (bo13 (false && (v22 k (ByteArray.mk #[45, 48])).snd == 3 && (v22 k bs_H07f13_1).snd == 1 && (v22 k bs_H07f13_2).fst == (-1000000000000) && (v22 k bs_H07f13_2).snd == 0))))) (.test ((false && (v16 k (ByteArray.mk #[(97 : UInt8), (32 : UInt8), (32 : UInt8), (98 : UInt8)])).fst == (3 : Int) && (v16 k (ByteArray.mk #[(34 : UInt8), (97 : UInt8), (34 : UInt8)])).fst == (3 : Int) && (v16 k (ByteArray.mk #[(97 : UInt8), (34 : UInt8), (98 : UInt8)])).fst == (3 : Int) && (v19 k bs_H07f13_4).fst == (0 : Int))) (.need [((v14 k [(ByteArray.mk #[(97 : UInt8)]), (ByteArray.mk #[]), (ByteArray.mk #[(98 : UInt8), (34 : UInt8), (99 : UInt8)])]).snd == (0 : Int) && (v14 k [(ByteArray.mk #[(97 : UInt8)]), (ByteArray.mk #[]), (ByteArray.mk #[(98 : UInt8), (34 : UInt8), (99 : UInt8)])]).fst.toList == bs_H07f13_3.toList && (v16 k (v14 k [(ByteArray.mk #[(97 : UInt8)]), (ByteArray.mk #[]), (ByteArray.mk #[(98 : UInt8), (34 : UInt8), (99 : UInt8)])]).fst).fst == (0 : Int)) = false, (false && (v16 k (ByteArray.mk #[(97 : UInt8), (32 : UInt8), (32 : UInt8), (98 : UInt8)])).fst == (3 : Int) && (v16 k (ByteArray.mk #[(34 : UInt8), (97 : UInt8), (34 : UInt8)])).fst == (3 : Int) && (v16 k (ByteArray.mk #[(97 : UInt8), (34 : UInt8), (98 : UInt8)])).fst == (3 : Int) && (v19 k bs_H07f13_4).fst == (0 : Int)) = true, CC Tryd.prog 21 (args21 (v19 k bs_H07f13_0).snd [[(ByteArray.mk #[97]), (ByteArray.mk #[98])]]) [] (res21 (v21 k (v19 k bs_H07f13_0).snd [[(ByteArray.mk #[97]), (ByteArray.mk #[98])]])) (bo21 (v21 k (v19 k bs_H07f13_0).snd [[(ByteArray.mk #[97]), (ByteArray.mk #[98])]]))] (.leaf (res13 (true && v21 k (v19 k bs_H07f13_0).snd [[(ByteArray.mk #[97]), (ByteArray.mk #[98])]] && (v22 k (ByteArray.mk #[45, 48])).snd == 3 && (v22 k bs_H07f13_1).snd == 1 && (v22 k bs_H07f13_2).fst == (-1000000000000) && (v22 k bs_H07f13_2).snd == 0)) (bo13 (true && v21 k (v19 k bs_H07f13_0).snd [[(ByteArray.mk #[97]), (ByteArray.mk #[98])]] && (v22 k (ByteArray.mk #[45, 48])).snd == 3 && (v22 k bs_H07f13_1).snd == 1 && (v22 k bs_H07f13_2).fst == (-1000000000000) && (v22 k bs_H07f13_2).snd == 0)))) (.need [((v14 k [(ByteArray.mk #[(97 : UInt8)]), (ByteArray.mk #[]), (ByteArray.mk #[(98 : UInt8), (34 : UInt8), (99 : UInt8)])]).snd == (0 : Int) && (v14 k [(ByteArray.mk #[(97 : UInt8)]), (ByteArray.mk #[]), (ByteArray.mk #[(98 : UInt8), (34 : UInt8), (99 : UInt8)])]).fst.toList == bs_H07f13_3.toList && (v16 k (v14 k [(ByteArray.mk #[(97 : UInt8)]), (ByteArray.mk #[]), (ByteArray.mk #[(98 : UInt8), (34 : UInt8), (99 : UInt8)])]).fst).fst == (0 : Int)) = false, (false && (v16 k (ByteArray.mk #[(97 : UInt8), (32 : UInt8), (32 : UInt8), (98 : UInt8)])).fst == (3 : Int) && (v16 k (ByteArray.mk #[(34 : UInt8), (97 : UInt8), (34 : UInt8)])).fst == (3 : Int) && (v16 k (ByteArray.mk #[(97 : UInt8), (34 : UInt8), (98 : UInt8)])).fst == (3 : Int) && (v19 k bs_H07f13_4).fst == (0 : Int)) = false] (.leaf (res13 (false && (v22 k (ByteArray.mk #[45, 48])).snd == 3 && (v22 k bs_H07f13_1).snd == 1 && (v22 k bs_H07f13_2).fst == (-1000000000000) && (v22 k bs_H07f13_2).snd == 0)) (bo13 (false && (v22 k (ByteArray.mk #[45, 48])).snd == 3 && (v22 k bs_H07f13_1).snd == 1 && (v22 k bs_H07f13_2).fst == (-1000000000000) && (v22 k bs_H07f13_2).snd == 0))))))))))))))) (by kernel_rfl) ?_
  by_cases q : ((f14 k [(ByteArray.mk #[97]), (ByteArray.mk #[]), (ByteArray.mk #[98, 34, 99])]).isSome = true)
  · rw [if_pos q] at h
    refine ⟨(conjC (cc14 k [(ByteArray.mk #[97]), (ByteArray.mk #[]), (ByteArray.mk #[98, 34, 99])] q) conj0), ?_⟩
    by_cases q : ((f16 k (v14 k [(ByteArray.mk #[97]), (ByteArray.mk #[]), (ByteArray.mk #[98, 34, 99])]).fst).isSome = true)
    · rw [if_pos q] at h
      refine ⟨(conjC (cc16 k (v14 k [(ByteArray.mk #[97]), (ByteArray.mk #[]), (ByteArray.mk #[98, 34, 99])]).fst q) conj0), ?_⟩
      by_cases q : ((f16 k (ByteArray.mk #[97, 32, 32, 98])).isSome = true)
      · rw [if_pos q] at h
        refine ⟨(conjC (cc16 k (ByteArray.mk #[97, 32, 32, 98]) q) conj0), ?_⟩
        by_cases q : ((f16 k (ByteArray.mk #[34, 97, 34])).isSome = true)
        · rw [if_pos q] at h
          refine ⟨(conjC (cc16 k (ByteArray.mk #[34, 97, 34]) q) conj0), ?_⟩
          by_cases q : ((f16 k (ByteArray.mk #[97, 34, 98])).isSome = true)
          · rw [if_pos q] at h
            refine ⟨(conjC (cc16 k (ByteArray.mk #[97, 34, 98]) q) conj0), ?_⟩
            by_cases q : ((f19 k bs_H07f13_0).isSome = true)
            · rw [if_pos q] at h
              refine ⟨(conjC (cc19 k bs_H07f13_0 q) conj0), ?_⟩
              by_cases q : ((f22 k (ByteArray.mk #[45, 48])).isSome = true)
              · rw [if_pos q] at h
                refine ⟨(conjC (cc22 k (ByteArray.mk #[45, 48]) q) conj0), ?_⟩
                by_cases q : ((f22 k bs_H07f13_1).isSome = true)
                · rw [if_pos q] at h
                  refine ⟨(conjC (cc22 k bs_H07f13_1 q) conj0), ?_⟩
                  by_cases q : ((f22 k bs_H07f13_2).isSome = true)
                  · rw [if_pos q] at h
                    refine ⟨(conjC (cc22 k bs_H07f13_2 q) conj0), ?_⟩
                    refine ⟨fun c => ?_, fun c => ?_⟩
                    · rw [cond_t c] at h
                      refine ⟨fun c => ?_, fun c => ?_⟩
                      · rw [cond_t c] at h
                        by_cases q : (((v14 k [(ByteArray.mk #[(97 : UInt8)]), (ByteArray.mk #[]), (ByteArray.mk #[(98 : UInt8), (34 : UInt8), (99 : UInt8)])]).snd == (0 : Int) && (v14 k [(ByteArray.mk #[(97 : UInt8)]), (ByteArray.mk #[]), (ByteArray.mk #[(98 : UInt8), (34 : UInt8), (99 : UInt8)])]).fst.toList == bs_H07f13_3.toList && (v16 k (v14 k [(ByteArray.mk #[(97 : UInt8)]), (ByteArray.mk #[]), (ByteArray.mk #[(98 : UInt8), (34 : UInt8), (99 : UInt8)])]).fst).fst == (0 : Int)) = true) ∧ ((f18 k (v16 k (v14 k [(ByteArray.mk #[97]), (ByteArray.mk #[]), (ByteArray.mk #[98, 34, 99])]).fst).snd [(ByteArray.mk #[97]), (ByteArray.mk #[]), (ByteArray.mk #[98, 34, 99])]).isSome = true) ∧ ((true && v18 k (v16 k (v14 k [(ByteArray.mk #[(97 : UInt8)]), (ByteArray.mk #[]), (ByteArray.mk #[(98 : UInt8), (34 : UInt8), (99 : UInt8)])]).fst).snd [(ByteArray.mk #[(97 : UInt8)]), (ByteArray.mk #[]), (ByteArray.mk #[(98 : UInt8), (34 : UInt8), (99 : UInt8)])] && (v16 k (ByteArray.mk #[(97 : UInt8), (32 : UInt8), (32 : UInt8), (98 : UInt8)])).fst == (3 : Int) && (v16 k (ByteArray.mk #[(34 : UInt8), (97 : UInt8), (34 : UInt8)])).fst == (3 : Int) && (v16 k (ByteArray.mk #[(97 : UInt8), (34 : UInt8), (98 : UInt8)])).fst == (3 : Int) && (v19 k bs_H07f13_4).fst == (0 : Int)) = true) ∧ ((f21 k (v19 k bs_H07f13_0).snd [[(ByteArray.mk #[97]), (ByteArray.mk #[98])]]).isSome = true)
                        · rw [if_pos q] at h
                          refine ⟨(conjC q.1 (conjC (cc18 k (v16 k (v14 k [(ByteArray.mk #[97]), (ByteArray.mk #[]), (ByteArray.mk #[98, 34, 99])]).fst).snd [(ByteArray.mk #[97]), (ByteArray.mk #[]), (ByteArray.mk #[98, 34, 99])] q.2.1) (conjC q.2.2.1 (conjC (cc21 k (v19 k bs_H07f13_0).snd [[(ByteArray.mk #[97]), (ByteArray.mk #[98])]] q.2.2.2) conj0)))), ?_⟩
                          cases h; exact ⟨rfl, rfl⟩
                        · rw [if_neg q] at h; cases h
                      · rw [cond_f c] at h
                        by_cases q : (((v14 k [(ByteArray.mk #[(97 : UInt8)]), (ByteArray.mk #[]), (ByteArray.mk #[(98 : UInt8), (34 : UInt8), (99 : UInt8)])]).snd == (0 : Int) && (v14 k [(ByteArray.mk #[(97 : UInt8)]), (ByteArray.mk #[]), (ByteArray.mk #[(98 : UInt8), (34 : UInt8), (99 : UInt8)])]).fst.toList == bs_H07f13_3.toList && (v16 k (v14 k [(ByteArray.mk #[(97 : UInt8)]), (ByteArray.mk #[]), (ByteArray.mk #[(98 : UInt8), (34 : UInt8), (99 : UInt8)])]).fst).fst == (0 : Int)) = true) ∧ ((f18 k (v16 k (v14 k [(ByteArray.mk #[97]), (ByteArray.mk #[]), (ByteArray.mk #[98, 34, 99])]).fst).snd [(ByteArray.mk #[97]), (ByteArray.mk #[]), (ByteArray.mk #[98, 34, 99])]).isSome = true) ∧ ((true && v18 k (v16 k (v14 k [(ByteArray.mk #[(97 : UInt8)]), (ByteArray.mk #[]), (ByteArray.mk #[(98 : UInt8), (34 : UInt8), (99 : UInt8)])]).fst).snd [(ByteArray.mk #[(97 : UInt8)]), (ByteArray.mk #[]), (ByteArray.mk #[(98 : UInt8), (34 : UInt8), (99 : UInt8)])] && (v16 k (ByteArray.mk #[(97 : UInt8), (32 : UInt8), (32 : UInt8), (98 : UInt8)])).fst == (3 : Int) && (v16 k (ByteArray.mk #[(34 : UInt8), (97 : UInt8), (34 : UInt8)])).fst == (3 : Int) && (v16 k (ByteArray.mk #[(97 : UInt8), (34 : UInt8), (98 : UInt8)])).fst == (3 : Int) && (v19 k bs_H07f13_4).fst == (0 : Int)) = false)
                        · rw [if_pos q] at h
                          refine ⟨(conjC q.1 (conjC (cc18 k (v16 k (v14 k [(ByteArray.mk #[97]), (ByteArray.mk #[]), (ByteArray.mk #[98, 34, 99])]).fst).snd [(ByteArray.mk #[97]), (ByteArray.mk #[]), (ByteArray.mk #[98, 34, 99])] q.2.1) (conjC q.2.2 conj0))), ?_⟩
                          cases h; exact ⟨rfl, rfl⟩
                        · rw [if_neg q] at h; cases h
                    · rw [cond_f c] at h
                      refine ⟨fun c => ?_, fun c => ?_⟩
                      · rw [cond_t c] at h
                        by_cases q : (((v14 k [(ByteArray.mk #[(97 : UInt8)]), (ByteArray.mk #[]), (ByteArray.mk #[(98 : UInt8), (34 : UInt8), (99 : UInt8)])]).snd == (0 : Int) && (v14 k [(ByteArray.mk #[(97 : UInt8)]), (ByteArray.mk #[]), (ByteArray.mk #[(98 : UInt8), (34 : UInt8), (99 : UInt8)])]).fst.toList == bs_H07f13_3.toList && (v16 k (v14 k [(ByteArray.mk #[(97 : UInt8)]), (ByteArray.mk #[]), (ByteArray.mk #[(98 : UInt8), (34 : UInt8), (99 : UInt8)])]).fst).fst == (0 : Int)) = false) ∧ ((false && (v16 k (ByteArray.mk #[(97 : UInt8), (32 : UInt8), (32 : UInt8), (98 : UInt8)])).fst == (3 : Int) && (v16 k (ByteArray.mk #[(34 : UInt8), (97 : UInt8), (34 : UInt8)])).fst == (3 : Int) && (v16 k (ByteArray.mk #[(97 : UInt8), (34 : UInt8), (98 : UInt8)])).fst == (3 : Int) && (v19 k bs_H07f13_4).fst == (0 : Int)) = true) ∧ ((f21 k (v19 k bs_H07f13_0).snd [[(ByteArray.mk #[97]), (ByteArray.mk #[98])]]).isSome = true)
                        · rw [if_pos q] at h
                          refine ⟨(conjC q.1 (conjC q.2.1 (conjC (cc21 k (v19 k bs_H07f13_0).snd [[(ByteArray.mk #[97]), (ByteArray.mk #[98])]] q.2.2) conj0))), ?_⟩
                          cases h; exact ⟨rfl, rfl⟩
                        · rw [if_neg q] at h; cases h
                      · rw [cond_f c] at h
                        by_cases q : (((v14 k [(ByteArray.mk #[(97 : UInt8)]), (ByteArray.mk #[]), (ByteArray.mk #[(98 : UInt8), (34 : UInt8), (99 : UInt8)])]).snd == (0 : Int) && (v14 k [(ByteArray.mk #[(97 : UInt8)]), (ByteArray.mk #[]), (ByteArray.mk #[(98 : UInt8), (34 : UInt8), (99 : UInt8)])]).fst.toList == bs_H07f13_3.toList && (v16 k (v14 k [(ByteArray.mk #[(97 : UInt8)]), (ByteArray.mk #[]), (ByteArray.mk #[(98 : UInt8), (34 : UInt8), (99 : UInt8)])]).fst).fst == (0 : Int)) = false) ∧ ((false && (v16 k (ByteArray.mk #[(97 : UInt8), (32 : UInt8), (32 : UInt8), (98 : UInt8)])).fst == (3 : Int) && (v16 k (ByteArray.mk #[(34 : UInt8), (97 : UInt8), (34 : UInt8)])).fst == (3 : Int) && (v16 k (ByteArray.mk #[(97 : UInt8), (34 : UInt8), (98 : UInt8)])).fst == (3 : Int) && (v19 k bs_H07f13_4).fst == (0 : Int)) = false)
                        · rw [if_pos q] at h
                          refine ⟨(conjC q.1 (conjC q.2 conj0)), ?_⟩
                          cases h; exact ⟨rfl, rfl⟩
                        · rw [if_neg q] at h; cases h
                  · rw [if_neg q] at h; cases h
                · rw [if_neg q] at h; cases h
              · rw [if_neg q] at h; cases h
            · rw [if_neg q] at h; cases h
          · rw [if_neg q] at h; cases h
        · rw [if_neg q] at h; cases h
      · rw [if_neg q] at h; cases h
    · rw [if_neg q] at h; cases h
  · rw [if_neg q] at h; cases h
theorem cc13 (k : Nat)  (h : (f13 k ).isSome = true) : CC Tryd.prog 13 (args13 ) [] (res13 (v13 k )) (bo13 (v13 k )) := by
  cases e : f13 k  with
  | none => rw [e] at h; cases h
  | some r => rw [show v13 k  = r by simp [v13, e]]; exact of13 k  r e

end
end Go.AM
namespace Go.AM
open Go Go.Proofs
def KK : Nat := 600
theorem f13_t : f13 KK = some true := by kernel_rfl
end Go.AM
namespace Go.AM
open Go Go.Proofs
set_option linter.unusedVariables false
noncomputable section
/-! ### function 23: papermill/papermillref07.Number -/
def K23 (k : Nat) : Calld := ⟨fun g => match g with
  | _ => none, fun g xs _ => match g with
  | _ => none⟩
abbrev R23 : Type := Int × Int
def res23 (r : R23) : AV := .tup [.r (.v (.int .i64 r.1)), .r (.v (.int .i64 r.2))]
def bo23 (r : R23) : List (Nat × Blk) := []
def st23_8 (x0 : ByteArray) (x1 : ByteArray) (x2 : Int) (x3 : Int) : St := ⟨mkS 61 [(0, .r (.v (.string x0))), (4, .r (.v (.string x1))), (5, .r (.v (.int .i64 x2))), (6, .r (.v (.int .i64 x3)))], []⟩
def f23_8 (k : Nat) : Nat → ByteArray → ByteArray → Int → Int → Option R23
  | 0, _, _, _, _ => none
  | j + 1, x0, x1, x2, x3 =>
    bif (decide (x3 < (↑x1.size : Int))) then
      if ((0 : Int) ≤ x3) ∧ (x3 < (↑x1.size : Int)) ∧ (decide (bAt x1 x3 < (48 : Int)) = false → (0 : Int) ≤ x3) ∧ (decide (bAt x1 x3 < (48 : Int)) = false → x3 < (↑x1.size : Int)) then
        bif (decide (bAt x1 x3 < (48 : Int)) || decide (bAt x1 x3 > (57 : Int))) then
          some ((0, 3))
        else
          if ((0 : Int) ≤ x3) ∧ (x3 < (↑x1.size : Int)) then
            f23_8 k j x0 x1 ((if 2000000000000 < IntKind.i64.wrap (IntKind.i64.wrap (10 * x2) + IntKind.i64.wrap (IntKind.u8.wrap (bAt x1 x3 - 48))) then 2000000000000 else IntKind.i64.wrap (IntKind.i64.wrap (10 * x2) + IntKind.i64.wrap (IntKind.u8.wrap (bAt x1 x3 - 48))))) ((IntKind.i64.wrap (x3 + 1)))
          else none
      else none
    else
      bif (decide (x2 > (1000000000000 : Int))) then
        some ((0, 1))
      else
        bif (!x1.toList == x0.toList) then
          some ((IntKind.i64.wrap (0 - x2), 0))
        else
          some ((x2, 0))
def f23 (k : Nat) (s_ : ByteArray) : Option R23 :=
  if ((!s_.toList == (ByteArray.mk #[]).toList) = true → (0 : Int) ≤ (0 : Int)) ∧ ((!s_.toList == (ByteArray.mk #[]).toList) = true → (0 : Int) < (↑s_.size : Int)) then
    bif (!s_.toList == (ByteArray.mk #[]).toList && bAt s_ (0 : Int) == (45 : Int)) then
      if ((0 : Int) ≤ (1 : Int)) ∧ ((1 : Int) ≤ (↑s_.size : Int)) ∧ ((↑s_.size : Int) ≤ (↑s_.size : Int)) then
        if (((s_.extract (Int.toNat (1 : Int)) (↑s_.size : Int).toNat).toList == (ByteArray.mk #[]).toList) = false → (0 : Int) ≤ (0 : Int)) ∧ (((s_.extract (Int.toNat (1 : Int)) (↑s_.size : Int).toNat).toList == (ByteArray.mk #[]).toList) = false → (0 : Int) < (↑ (s_.extract (Int.toNat (1 : Int)) (↑s_.size : Int).toNat).size : Int)) then
          bif ((s_.extract (Int.toNat (1 : Int)) (↑s_.size : Int).toNat).toList == (ByteArray.mk #[]).toList || bAt (s_.extract (Int.toNat (1 : Int)) (↑s_.size : Int).toNat) (0 : Int) == (48 : Int) && !s_.toList == (ByteArray.mk #[(48 : UInt8)]).toList) then
            some ((0, 3))
          else
            f23_8 k k s_ ((s_.extract (Int.toNat 1) (↑s_.size : Int).toNat)) 0 0
        else none
      else none
    else
      if ((s_.toList == (ByteArray.mk #[]).toList) = false → (0 : Int) ≤ (0 : Int)) ∧ ((s_.toList == (ByteArray.mk #[]).toList) = false → (0 : Int) < (↑s_.size : Int)) then
        bif (s_.toList == (ByteArray.mk #[]).toList || bAt s_ (0 : Int) == (48 : Int) && !s_.toList == (ByteArray.mk #[(48 : UInt8)]).toList) then
          some ((0, 3))
        else
          f23_8 k k s_ s_ 0 0
      else none
  else none
def args23 (s_ : ByteArray) : List AV := [.r (.v (.string s_))]
def v23 (k : Nat) (s_ : ByteArray) : R23 := (f23 k s_).getD (0, 0)
theorem ev23 (k : Nat) : ∀ j, (∀ (x0 : ByteArray) (x1 : ByteArray) (x2 : Int) (x3 : Int) (r : R23), f23_8 k j x0 x1 x2 x3 = some r → Ev Tryd.prog Tryd.f23 0 (placeAt Tryd.f23 8) (st23_8 x0 x1 x2 x3) (res23 r) (bo23 r))
  | 0 => by
    intros; rename_i h; simp [f23_8] at h
  | j + 1 => by
    have ih := ev23 k j
    · intro x0 x1 x2 x3 r h
      rw [f23_8] at h
      refine Ev.tree hm (R := Rt) (K := (K23 k)) (l := []) (C := [(8, [.auto [0, 4, 5, 6] false])]) (E := [.auto [2, 3] true]) (n := 1000) (T := .test ((decide (x3 < (↑x1.size : Int)))) (.need [(0 : Int) ≤ x3, x3 < (↑x1.size : Int), decide (bAt x1 x3 < (48 : Int)) = false → (0 : Int) ≤ x3, decide (bAt x1 x3 < (48 : Int)) = false → x3 < (↑x1.size : Int)] (.test ((decide (bAt x1 x3 < (48 : Int)) || decide (bAt x1 x3 > (57 : Int)))) (.leaf (res23 ((0, 3))) (bo23 ((0, 3)))) (.need [(0 : Int) ≤ x3, x3 < (↑x1.size : Int)] (.cut 8 (placeAt Tryd.f23 8) (st23_8 x0 x1 ((if 2000000000000 < IntKind.i64.wrap (IntKind.i64.wrap (10 * x2) + IntKind.i64.wrap (IntKind.u8.wrap (bAt x1 x3 - 48))) then 2000000000000 else IntKind.i64.wrap (IntKind.i64.wrap (10 * x2) + IntKind.i64.wrap (IntKind.u8.wrap (bAt x1 x3 - 48))))) ((IntKind.i64.wrap (x3 + 1)))))))) (.test ((decide (x2 > (1000000000000 : Int)))) (.leaf (res23 ((0, 1))) (bo23 ((0, 1)))) (.test ((!x1.toList == x0.toList)) (.leaf (res23 ((IntKind.i64.wrap (0 - x2), 0))) (bo23 ((IntKind.i64.wrap (0 - x2), 0)))) (.leaf (res23 ((x2, 0))) (bo23 ((x2, 0))))))) (by kernel_rfl) ?_
      refine ⟨fun c => ?_, fun c => ?_⟩
      · rw [cond_t c] at h
        by_cases q : ((0 : Int) ≤ x3) ∧ (x3 < (↑x1.size : Int)) ∧ (decide (bAt x1 x3 < (48 : Int)) = false → (0 : Int) ≤ x3) ∧ (decide (bAt x1 x3 < (48 : Int)) = false → x3 < (↑x1.size : Int))
        · rw [if_pos q] at h
          refine ⟨(conjC q.1 (conjC q.2.1 (conjC q.2.2.1 (conjC q.2.2.2 conj0)))), ?_⟩
          refine ⟨fun c => ?_, fun c => ?_⟩
          · rw [cond_t c] at h
            cases h; exact ⟨rfl, rfl⟩
          · rw [cond_f c] at h
            by_cases q : ((0 : Int) ≤ x3) ∧ (x3 < (↑x1.size : Int))
            · rw [if_pos q] at h
              refine ⟨(conjC q.1 (conjC q.2 conj0)), ?_⟩
              exact ih x0 x1 ((if 2000000000000 < IntKind.i64.wrap (IntKind.i64.wrap (10 * x2) + IntKind.i64.wrap (IntKind.u8.wrap (bAt x1 x3 - 48))) then 2000000000000 else IntKind.i64.wrap (IntKind.i64.wrap (10 * x2) + IntKind.i64.wrap (IntKind.u8.wrap (bAt x1 x3 - 48))))) ((IntKind.i64.wrap (x3 + 1))) _ h
            · rw [if_neg q] at h; cases h
        · rw [if_neg q] at h; cases h
      · rw [cond_f c] at h
        refine ⟨fun c => ?_, fun c => ?_⟩
        · rw [cond_t c] at h
          cases h; exact ⟨rfl, rfl⟩
        · rw [cond_f c] at h
          refine ⟨fun c => ?_, fun c => ?_⟩
          · rw [cond_t c] at h
            cases h; exact ⟨rfl, rfl⟩
          · rw [cond_f c] at h
            cases h; exact ⟨rfl, rfl⟩
theorem of23 (k : Nat) (s_ : ByteArray) (r : R23) (h : f23 k s_ = some r) : CC Tryd.prog 23 (args23 s_) [] (res23 r) (bo23 r) := by
  refine CC.of (fn := Tryd.f23) (by kernel_rfl) (by kernel_rfl) (by kernel_rfl) (by kernel_rfl) ?_
  unfold f23 at h
  refine Ev.tree hm (R := Rt) (K := (K23 k)) (l := []) (C := [(8, [.auto [0, 4, 5, 6] false])]) (E := [.auto [2, 3] true]) (n := 1000) (T := .need [(!s_.toList == (ByteArray.mk #[]).toList) = true → (0 : Int) ≤ (0 : Int), (!s_.toList == (ByteArray.mk #[]).toList) = true → (0 : Int) < (↑s_.size : Int)] (.test ((!s_.toList == (ByteArray.mk #[]).toList && bAt s_ (0 : Int) == (45 : Int))) (.need [(0 : Int) ≤ (1 : Int), (1 : Int) ≤ (↑s_.size : Int), (↑s_.size : Int) ≤ (↑s_.size : Int)] (.need [((s_.extract (Int.toNat (1 : Int)) (↑s_.size : Int).toNat).toList == (ByteArray.mk #[]).toList) = false → (0 : Int) ≤ (0 : Int), ((s_.extract (Int.toNat (1 : Int)) (↑s_.size : Int).toNat).toList == (ByteArray.mk #[]).toList) = false → (0 : Int) < (↑ (s_.extract (Int.toNat (1 : Int)) (↑s_.size : Int).toNat).size : Int)] (.test (((s_.extract (Int.toNat (1 : Int)) (↑s_.size : Int).toNat).toList == (ByteArray.mk #[]).toList || bAt (s_.extract (Int.toNat (1 : Int)) (↑s_.size : Int).toNat) (0 : Int) == (48 : Int) && !s_.toList == (ByteArray.mk #[(48 : UInt8)]).toList)) (.leaf (res23 ((0, 3))) (bo23 ((0, 3)))) (.cut 8 (placeAt Tryd.f23 8) (st23_8 s_ ((s_.extract (Int.toNat 1) (↑s_.size : Int).toNat)) 0 0))))) (.need [(s_.toList == (ByteArray.mk #[]).toList) = false → (0 : Int) ≤ (0 : Int), (s_.toList == (ByteArray.mk #[]).toList) = false → (0 : Int) < (↑s_.size : Int)] (.test ((s_.toList == (ByteArray.mk #[]).toList || bAt s_ (0 : Int) == (48 : Int) && !s_.toList == (ByteArray.mk #[(48 : UInt8)]).toList)) (.leaf (res23 ((0, 3))) (bo23 ((0, 3)))) (.cut 8 (placeAt Tryd.f23 8) (st23_8 s_ s_ 0 0)))))) (by kernel_rfl) ?_
  by_cases q : ((!s_.toList == (ByteArray.mk #[]).toList) = true → (0 : Int) ≤ (0 : Int)) ∧ ((!s_.toList == (ByteArray.mk #[]).toList) = true → (0 : Int) < (↑s_.size : Int))
  · rw [if_pos q] at h
    refine ⟨(conjC q.1 (conjC q.2 conj0)), ?_⟩
    refine ⟨fun c => ?_, fun c => ?_⟩
    · rw [cond_t c] at h
      by_cases q : ((0 : Int) ≤ (1 : Int)) ∧ ((1 : Int) ≤ (↑s_.size : Int)) ∧ ((↑s_.size : Int) ≤ (↑s_.size : Int))
      · rw [if_pos q] at h
        refine ⟨(conjC q.1 (conjC q.2.1 (conjC q.2.2 conj0))), ?_⟩
        by_cases q : (((s_.extract (Int.toNat (1 : Int)) (↑s_.size : Int).toNat).toList == (ByteArray.mk #[]).toList) = false → (0 : Int) ≤ (0 : Int)) ∧ (((s_.extract (Int.toNat (1 : Int)) (↑s_.size : Int).toNat).toList == (ByteArray.mk #[]).toList) = false → (0 : Int) < (↑ (s_.extract (Int.toNat (1 : Int)) (↑s_.size : Int).toNat).size : Int))
        · rw [if_pos q] at h
          refine ⟨(conjC q.1 (conjC q.2 conj0)), ?_⟩
          refine ⟨fun c => ?_, fun c => ?_⟩
          · rw [cond_t c] at h
            cases h; exact ⟨rfl, rfl⟩
          · rw [cond_f c] at h
            exact (ev23 k k) s_ ((s_.extract (Int.toNat 1) (↑s_.size : Int).toNat)) 0 0 _ h
        · rw [if_neg q] at h; cases h
      · rw [if_neg q] at h; cases h
    · rw [cond_f c] at h
      by_cases q : ((s_.toList == (ByteArray.mk #[]).toList) = false → (0 : Int) ≤ (0 : Int)) ∧ ((s_.toList == (ByteArray.mk #[]).toList) = false → (0 : Int) < (↑s_.size : Int))
      · rw [if_pos q] at h
        refine ⟨(conjC q.1 (conjC q.2 conj0)), ?_⟩
        refine ⟨fun c => ?_, fun c => ?_⟩
        · rw [cond_t c] at h
          cases h; exact ⟨rfl, rfl⟩
        · rw [cond_f c] at h
          exact (ev23 k k) s_ s_ 0 0 _ h
      · rw [if_neg q] at h; cases h
  · rw [if_neg q] at h; cases h
theorem cc23 (k : Nat) (s_ : ByteArray) (h : (f23 k s_).isSome = true) : CC Tryd.prog 23 (args23 s_) [] (res23 (v23 k s_)) (bo23 (v23 k s_)) := by
  cases e : f23 k s_ with
  | none => rw [e] at h; cases h
  | some r => rw [show v23 k s_ = r by simp [v23, e]]; exact of23 k s_ r e

end
end Go.AM
namespace Go.AM
open Go Go.Proofs

theorem u8_id {i : Int} (h0 : 0 ≤ i) (h1 : i < 256) : IntKind.u8.wrap i = i := by
  simp [IntKind.wrap, IntKind.bits, IntKind.signed]; omega

theorem tl_data (s : ByteArray) : s.toList = s.data.toList := Lib.toList_data s

theorem loopN (k : Nat) (s d : ByteArray) (neg : Bool) (hneg : (!d.toList == s.toList) = neg) (hd : d.size ≤ 1000) :
    ∀ (j i : Nat) (n nR : Int) (g : Bool), i ≤ d.size → d.size - i < j → 0 ≤ n → n ≤ 1000000000000 → 0 ≤ nR → nR ≤ 2000000000000 → (g = false → n = nR) → (g = true → 1000000000000 < nR) →
      ∃ r, f22_6 k j d neg n g (d.size : Int) (i : Int) = some r ∧ f23_8 k j s d nR (i : Int) = some r
  | 0, i, n, nR, g, _, h, _, _, _, _, _, _ => by omega
  | j + 1, i, n, nR, g, hi, hj, h0, h1, h2, h3, h4, h5 => by
    unfold f22_6 f23_8
    by_cases hlt : i < d.size
    · have e1 : decide ((i : Int) < (d.size : Int)) = true := decide_eq_true (by omega)
      rw [e1]
      simp only [cond_true]
      rw [if_pos ⟨by omega, by omega⟩, if_pos ⟨by omega, by omega, fun _ => by omega, fun _ => by omega⟩]
      cases hc : (decide (bAt d (i : Int) < (48 : Int)) || decide (bAt d (i : Int) > (57 : Int)))
      · simp only [Bool.or_eq_false_iff, decide_eq_false_iff_not] at hc
        simp only [cond_false]
        rw [if_pos ⟨by omega, by omega⟩]
        have hb : IntKind.u8.wrap (bAt d (i : Int) - 48) = bAt d (i : Int) - 48 := u8_id (by omega) (by omega)
        rw [hb, wrap_id (i := bAt d (i : Int) - 48) (by omega) (by omega), wrap_id (i := 10 * n) (by omega) (by omega), wrap_id (i := 10 * nR) (by omega) (by omega), wrap_id (i := 10 * n + (bAt d (i : Int) - 48)) (by omega) (by omega), wrap_id (i := 10 * nR + (bAt d (i : Int) - 48)) (by omega) (by omega), wrap_id (i := (i : Int) + 1) (by omega) (by omega)]
        rw [show (i : Int) + 1 = ((i + 1 : Nat) : Int) by omega]
        have hm : ∃ m, (if 2000000000000 < 10 * nR + (bAt d (i : Int) - 48) then 2000000000000 else 10 * nR + (bAt d (i : Int) - 48)) = m ∧ 0 ≤ m ∧ m ≤ 2000000000000 ∧ (10 * nR + (bAt d (i : Int) - 48) ≤ 2000000000000 → m = 10 * nR + (bAt d (i : Int) - 48)) ∧ (2000000000000 < 10 * nR + (bAt d (i : Int) - 48) → m = 2000000000000) := by
          refine ⟨_, rfl, ?_⟩
          split <;> omega
        obtain ⟨m, hm, m0, m1, m2, m3⟩ := hm
        rw [hm]
        cases hg : decide (10 * n + (bAt d (i : Int) - 48) > 1000000000000)
        · simp only [decide_eq_false_iff_not] at hg
          simp only [cond_false]
          exact loopN k s d neg hneg hd j (i + 1) _ _ g (by omega) (by omega) (by omega) (by omega) m0 m1 (fun e => by have := h4 e; omega) (fun e => by have := h5 e; omega)
        · simp only [decide_eq_true_eq] at hg
          simp only [cond_true]
          exact loopN k s d neg hneg hd j (i + 1) _ _ true (by omega) (by omega) (by omega) (by omega) m0 m1 (fun e => by cases e) (fun e => by
            cases g with
            | false => have := h4 rfl; omega
            | true => have := h5 rfl; omega)
      · simp only [cond_true]
        exact ⟨_, rfl, rfl⟩
    · have e1 : decide ((i : Int) < (d.size : Int)) = false := decide_eq_false (by omega)
      rw [e1]
      simp only [cond_false]
      cases g with
      | true =>
        have := h5 rfl
        rw [decide_eq_true (by omega : nR > 1000000000000)]
        exact ⟨_, rfl, rfl⟩
      | false =>
        have := h4 rfl
        subst this
        rw [decide_eq_false (by omega : ¬ n > 1000000000000), hneg]
        cases neg <;> exact ⟨_, rfl, rfl⟩
end Go.AM
namespace Go.AM
open Go Go.Proofs
def ng (s : ByteArray) : Bool := (!s.toList == (ByteArray.mk #[]).toList && bAt s (0 : Int) == (45 : Int))
theorem u45 (b : UInt8) : (b == 45) = (((b.toNat : Nat) : Int) == 45) := by
  rw [Bool.eq_iff_iff, beq_iff_eq, beq_iff_eq]
  constructor
  · intro h; subst h; rfl
  · intro h
    apply UInt8.toNat_inj.1
    have : b.toNat = 45 := by omega
    rw [this]; rfl
theorem neg_eq (s : ByteArray) : (decide ((↑s.size : Int) ≥ (↑(ByteArray.mk #[45]).size : Int)) && (s.extract (Int.toNat 0) (↑(ByteArray.mk #[45]).size : Int).toNat).toList == (ByteArray.mk #[45]).toList) = ng s := by
  unfold ng
  rw [tl_data, tl_data, tl_data, tl_data]
  obtain ⟨⟨l⟩⟩ := s
  cases l with
  | nil => rfl
  | cons b l =>
    have h : (⟨⟨b :: l⟩⟩ : ByteArray).size = l.length + 1 := by simp [ByteArray.size]
    have h2 : ((⟨⟨b :: l⟩⟩ : ByteArray).extract 0 1).data.toList = [b] := by
      rw [ByteArray.data_extract]; simp [Array.toList_extract]
    have h3 : (ByteArray.mk #[45]).size = 1 := rfl
    rw [h3, h]
    rw [show ((1 : Nat) : Int).toNat = 1 from rfl, show Int.toNat 0 = 0 from rfl, h2]
    rw [decide_eq_true (by omega)]
    have h4 : bAt ⟨⟨b :: l⟩⟩ 0 = (b.toNat : Int) := rfl
    rw [h4, ← u45]
    simp
theorem if_some {α β : Type} (x : α) (a b : β) : (if (some x).isSome = true then a else b) = a := rfl
theorem f37_s (k : Nat) (s : ByteArray) : f37 k s (ByteArray.mk #[45]) = some (bif ng s then (s.extract 1 s.size, true) else (s, false)) := by
  have e40 : f40 k s (ByteArray.mk #[45]) = some (ng s) := by
    unfold f40
    rw [neg_eq, if_pos ⟨fun _ => by omega, fun _ => by omega, fun h => by simpa using h⟩]
  have v40e : v40 k s (ByteArray.mk #[45]) = ng s := by unfold v40; rw [e40]; rfl
  have e52 : f52 k s (ByteArray.mk #[45]) = some (bif ng s then (s.extract 1 s.size, true) else (s, false)) := by
    unfold f52
    rw [e40, v40e, if_some]
    cases hn : ng s
    · rfl
    · have hs : 1 ≤ s.size := by
        rw [← neg_eq] at hn
        simp only [Bool.and_eq_true, decide_eq_true_eq] at hn
        have h3 : (ByteArray.mk #[45]).size = 1 := rfl
        rw [h3] at hn; omega
      have h3 : (ByteArray.mk #[45]).size = 1 := rfl
      simp only [h3, Bool.not_true, cond_false, cond_true]
      rw [if_pos ⟨by omega, by omega, by omega⟩]
      rfl
  have v52e : v52 k s (ByteArray.mk #[45]) = (bif ng s then (s.extract 1 s.size, true) else (s, false)) := by unfold v52; rw [e52]; rfl
  unfold f37
  rw [e52, v52e, if_some]
end Go.AM
namespace Go.AM
open Go Go.Proofs
set_option linter.unusedVariables false
noncomputable section
/-! ### function 6: papermill/papermilllaw07.FieldNumbers -/
def K6 (k : Nat) : Calld := ⟨fun g => match g with
  | 22 => some [false]
  | 13 => some []
  | 23 => some [false]
  | _ => none, fun g xs _ => match g with
  | 22 => match xs with
    | [.r (.v (.string s_))] => some (res22 (v22 k s_), bo22 (v22 k s_))
    | _ => none
  | 13 => match xs with
    | [] => some (res13 (v13 k ), bo13 (v13 k ))
    | _ => none
  | 23 => match xs with
    | [.r (.v (.string s_))] => some (res23 (v23 k s_), bo23 (v23 k s_))
    | _ => none
  | _ => none⟩
abbrev R6 : Type := Bool
def res6 (r : R6) : AV := .r (.v (.bool r))
def bo6 (r : R6) : List (Nat × Blk) := []
def f6 (k : Nat) (s_ : ByteArray) : Option R6 :=
  bif (decide ((↑s_.size : Int) > (200 : Int))) then
    if ((f13 k ).isSome = true) then
      some (v13 k)
    else none
  else
    if ((f22 k s_).isSome = true) then
      if ((f23 k s_).isSome = true) then
        bif ((v22 k s_).fst == (v23 k s_).fst && (v22 k s_).snd == (v23 k s_).snd) then
          if (((v22 k s_).fst == (v23 k s_).fst && (v22 k s_).snd == (v23 k s_).snd) = true) ∧ ((f13 k ).isSome = true) then
            some (true && v13 k)
          else none
        else
          if (((v22 k s_).fst == (v23 k s_).fst && (v22 k s_).snd == (v23 k s_).snd) = false) then
            some false
          else none
      else none
    else none
def args6 (s_ : ByteArray) : List AV := [.r (.v (.string s_))]
def v6 (k : Nat) (s_ : ByteArray) : R6 := (f6 k s_).getD false
theorem of6 (k : Nat) (s_ : ByteArray) (r : R6) (h : f6 k s_ = some r) : CC Tryd.prog 6 (args6 s_) [] (res6 r) (bo6 r) := by
  refine CC.of (fn := Tryd.f6) (by kernel_rfl) (by kernel_rfl) (by kernel_rfl) (by kernel_rfl) ?_
  unfold f6 at h
  refine Ev.tree hm (R := Rt) (K := (K6 k)) (l := []) (C := []) (E := [.auto [2] true]) (n := 1000) (T := .test ((decide ((↑s_.size : Int) > (200 : Int)))) (.need [CC Tryd.prog 13 (args13 ) [] (res13 (v13 k )) (bo13 (v13 k ))] (.leaf (res6 (v13 k)) (bo6 (v13 k)))) (.need [CC Tryd.prog 22 (args22 s_) [] (res22 (v22 k s_)) (bo22 (v22 k s_))] (.need [CC Tryd.prog 23 (args23 s_) [] (res23 (v23 k s_)) (bo23 (v23 k s_))] (.test (((v22 k s_).fst == (v23 k s_).fst && (v22 k s_).snd == (v23 k s_).snd)) (.need [((v22 k s_).fst == (v23 k s_).fst && (v22 k s_).snd == (v23 k s_).snd) = true, CC Tryd.prog 13 (args13 ) [] (res13 (v13 k )) (bo13 (v13 k ))] (.leaf (res6 (true && v13 k)) (bo6 (true && v13 k)))) (.need [((v22 k s_).fst == (v23 k s_).fst && (v22 k s_).snd == (v23 k s_).snd) = false] (.leaf (res6 false) (bo6 false))))))) (by kernel_rfl) ?_
  refine ⟨fun c => ?_, fun c => ?_⟩
  · rw [cond_t c] at h
    by_cases q : ((f13 k ).isSome = true)
    · rw [if_pos q] at h
      refine ⟨(conjC (cc13 k  q) conj0), ?_⟩
      cases h; exact ⟨rfl, rfl⟩
    · rw [if_neg q] at h; cases h
  · rw [cond_f c] at h
    by_cases q : ((f22 k s_).isSome = true)
    · rw [if_pos q] at h
      refine ⟨(conjC (cc22 k s_ q) conj0), ?_⟩
      by_cases q : ((f23 k s_).isSome = true)
      · rw [if_pos q] at h
        refine ⟨(conjC (cc23 k s_ q) conj0), ?_⟩
        refine ⟨fun c => ?_, fun c => ?_⟩
        · rw [cond_t c] at h
          by_cases q : (((v22 k s_).fst == (v23 k s_).fst && (v22 k s_).snd == (v23 k s_).snd) = true) ∧ ((f13 k ).isSome = true)
          · rw [if_pos q] at h
            refine ⟨(conjC q.1 (conjC (cc13 k  q.2) conj0)), ?_⟩
            cases h; exact ⟨rfl, rfl⟩
          · rw [if_neg q] at h; cases h
        · rw [cond_f c] at h
          by_cases q : (((v22 k s_).fst == (v23 k s_).fst && (v22 k s_).snd == (v23 k s_).snd) = false)
          · rw [if_pos q] at h
            refine ⟨(conjC q conj0), ?_⟩
            cases h; exact ⟨rfl, rfl⟩
          · rw [if_neg q] at h; cases h
      · rw [if_neg q] at h; cases h
    · rw [if_neg q] at h; cases h
theorem cc6 (k : Nat) (s_ : ByteArray) (h : (f6 k s_).isSome = true) : CC Tryd.prog 6 (args6 s_) [] (res6 (v6 k s_)) (bo6 (v6 k s_)) := by
  cases e : f6 k s_ with
  | none => rw [e] at h; cases h
  | some r => rw [show v6 k s_ = r by simp [v6, e]]; exact of6 k s_ r e

end
end Go.AM
namespace Go.AM
open Go Go.Proofs
attribute [local irreducible] KK
theorem ne_size {s : ByteArray} (h : (s.toList == (ByteArray.mk #[]).toList) = false) : (0 : Int) < (s.size : Int) := by
  rw [tl_data, tl_data] at h
  obtain ⟨⟨l⟩⟩ := s
  cases l with
  | nil => cases h
  | cons b l => simp [ByteArray.size]
theorem ng_pos {s : ByteArray} (h : ng s = true) : 1 ≤ s.size := by
  unfold ng at h
  simp only [Bool.and_eq_true, Bool.not_eq_true'] at h
  have := ne_size h.1
  omega
theorem f22_23 (s : ByteArray) (hs : s.size ≤ 200) : ∃ r, f22 KK s = some r ∧ f23 KK s = some r := by
  unfold f22 f23 v37
  rw [f37_s, if_some]
  simp only [Option.getD_some]
  rw [show (!s.toList == (ByteArray.mk #[]).toList && bAt s (0 : Int) == (45 : Int)) = ng s from rfl]
  rw [if_pos (c := ((!s.toList == (ByteArray.mk #[]).toList) = true → (0 : Int) ≤ (0 : Int)) ∧ ((!s.toList == (ByteArray.mk #[]).toList) = true → (0 : Int) < (↑s.size : Int))) ⟨fun _ => by omega, fun h => ne_size (by simpa using h)⟩]
  cases hn : ng s
  · simp only [cond_false]
    have hq : ((s.toList == (ByteArray.mk #[]).toList) = false → (0 : Int) ≤ (0 : Int)) ∧ ((s.toList == (ByteArray.mk #[]).toList) = false → (0 : Int) < (↑s.size : Int)) := ⟨fun _ => by omega, fun h => ne_size h⟩
    rw [if_pos hq, if_pos hq]
    cases hc : (s.toList == (ByteArray.mk #[]).toList || bAt s (0 : Int) == (48 : Int) && !s.toList == (ByteArray.mk #[(48 : UInt8)]).toList)
    · simp only [cond_false]
      have hl := loopN KK s s false (by simp) (by omega) KK 0 0 0 false (by omega) (by unfold KK; omega) (by omega) (by omega) (by omega) (by omega) (fun _ => rfl) (fun h => by cases h)
      rw [show ((0 : Nat) : Int) = 0 from rfl] at hl
      exact hl
    · simp only [cond_true]
      exact ⟨_, rfl, rfl⟩
  · have h1 := ng_pos hn
    simp only [cond_true]
    rw [if_pos (c := ((0 : Int) ≤ (1 : Int)) ∧ ((1 : Int) ≤ (↑s.size : Int)) ∧ ((↑s.size : Int) ≤ (↑s.size : Int))) ⟨by omega, by omega, by omega⟩]
    rw [show Int.toNat (1 : Int) = 1 from rfl, show ((s.size : Nat) : Int).toNat = s.size from rfl]
    have hd : (s.extract 1 s.size).size = s.size - 1 := by simp
    generalize hdd : s.extract 1 s.size = d at hd
    have hq : ((d.toList == (ByteArray.mk #[]).toList) = false → (0 : Int) ≤ (0 : Int)) ∧ ((d.toList == (ByteArray.mk #[]).toList) = false → (0 : Int) < (↑d.size : Int)) := ⟨fun _ => by omega, fun h => ne_size h⟩
    rw [if_pos hq, if_pos hq]
    cases hc : (d.toList == (ByteArray.mk #[]).toList || bAt d (0 : Int) == (48 : Int) && !s.toList == (ByteArray.mk #[(48 : UInt8)]).toList)
    · simp only [cond_false]
      have hne : (!d.toList == s.toList) = true := by
        have : d.toList ≠ s.toList := fun h => by
          rw [tl_data, tl_data] at h
          have := congrArg List.length h
          have e1 : d.data.toList.length = d.size := rfl
          have e2 : s.data.toList.length = s.size := rfl
          omega
        simpa using this
      have hl := loopN KK s d true hne (by omega) KK 0 0 0 false (by omega) (by unfold KK; omega) (by omega) (by omega) (by omega) (by omega) (fun _ => rfl) (fun h => by cases h)
      rw [show ((0 : Nat) : Int) = 0 from rfl] at hl
      exact hl
    · simp only [cond_true]
      exact ⟨_, rfl, rfl⟩
theorem v13_t : v13 KK = true := by unfold v13; rw [f13_t]; rfl
theorem f6_j (s : ByteArray) : f6 KK s = some true := by
  unfold f6
  rw [f13_t, v13_t, if_some]
  by_cases hs : s.size ≤ 200
  · rw [decide_eq_false (by omega : ¬ (s.size : Int) > 200)]
    obtain ⟨r, h1, h2⟩ := f22_23 s hs
    have h3 : v22 KK s = r := by unfold v22; rw [h1]; rfl
    have h4 : v23 KK s = r := by unfold v23; rw [h2]; rfl
    rw [h1, h2, h3, h4]
    simp
  · rw [decide_eq_true (by omega : (s.size : Int) > 200)]
    rfl
end Go.AM
