/- Contracts of the functions that the law reaches, and the plain law. -/
import Derived.Test.YtjljfpgldnfaoaaDoorFuna
import Derived.Lib.ItoaNum
namespace Go.AM
open Go Go.Proofs
set_option linter.unusedVariables false
noncomputable section
/-! ### function 19: papermill/field.Lines -/
def K19 (k : Nat) : Calld := ⟨fun g => match g with
  | 16 => some [false]
  | 24 => some [false, false]
  | 36 => some [false, false]
  | _ => none, fun g xs _ => match g with
  | 16 => match xs with
    | [.r (.v (.string line_))] => some (res16 (v16 k line_), bo16 (v16 k line_))
    | _ => none
  | 24 => match xs with
    | [.r (.v (.string s_)), .r (.v (.string suffix_))] => some (res24 (v24 k s_ suffix_), bo24 (v24 k s_ suffix_))
    | _ => none
  | 36 => match xs with
    | [.r (.v (.string s_)), .r (.v (.string sep_))] => some (res36 (v36 k s_ sep_), bo36 (v36 k s_ sep_))
    | _ => none
  | _ => none⟩
abbrev R19 : Type := Int × List (RTy.str.list).T
def res19 (r : R19) : AV := .tup [.own 0 0, .r (.v (.int .i64 r.1))]
def bo19 (r : R19) : List (Nat × Blk) := [(0, .row 22 RTy.str.list r.2)]
def st19_4 (x0 : ByteArray) (x1 : List (RTy.str.list).T) : St := ⟨mkS 46 [(0, .r (.v (.string x0))), (4, .own 1000000 0)], [(1000000, 0, .row 22 RTy.str.list x1)]⟩
def f19_4 (k : Nat) : Nat → ByteArray → List (RTy.str.list).T → Option R19
  | 0, _, _ => none
  | j + 1, x0, x1 =>
    bif (!x0.toList == (ByteArray.mk #[]).toList) then
      if ((f36 k x0 (ByteArray.mk #[10])).isSome = true) then
        if (((v36 k x0 (ByteArray.mk #[(10 : UInt8)])).fst.toList == (ByteArray.mk #[]).toList) = false → (0 : Int) ≤ (0 : Int)) ∧ (((v36 k x0 (ByteArray.mk #[(10 : UInt8)])).fst.toList == (ByteArray.mk #[]).toList) = false → (0 : Int) < (↑ (v36 k x0 (ByteArray.mk #[(10 : UInt8)])).fst.size : Int)) then
          bif ((v36 k x0 (ByteArray.mk #[(10 : UInt8)])).fst.toList == (ByteArray.mk #[]).toList || bAt (v36 k x0 (ByteArray.mk #[(10 : UInt8)])).fst (0 : Int) == (35 : Int)) then
            f19_4 k j ((v36 k x0 (ByteArray.mk #[10])).snd.fst) x1
          else
            if ((f16 k (v36 k x0 (ByteArray.mk #[10])).fst).isSome = true) then
              bif ((v16 k (v36 k x0 (ByteArray.mk #[(10 : UInt8)])).fst).fst != (0 : Int)) then
                some (((v16 k (v36 k x0 (ByteArray.mk #[10])).fst).fst, []))
              else
                if ((x1.length + [(v16 k (v36 k x0 (ByteArray.mk #[(10 : UInt8)])).fst).snd].length) * (24 : Nat) ≤ (140737488355328 : Nat)) then
                  f19_4 k j ((v36 k x0 (ByteArray.mk #[10])).snd.fst) ((x1 ++ [(v16 k (v36 k x0 (ByteArray.mk #[10])).fst).snd]))
                else none
            else none
        else none
      else none
    else
      some ((0, x1))
def f19 (k : Nat) (text_ : ByteArray) : Option R19 :=
  bif (!text_.toList == (ByteArray.mk #[]).toList) then
    if ((!text_.toList == (ByteArray.mk #[]).toList) = true) ∧ ((f24 k text_ (ByteArray.mk #[10])).isSome = true) then
      bif (true && (!v24 k text_ (ByteArray.mk #[(10 : UInt8)]))) then
        some ((3, []))
      else
        f19_4 k k text_ ([])
    else none
  else
    if ((!text_.toList == (ByteArray.mk #[]).toList) = false) then
      f19_4 k k text_ ([])
    else none
def args19 (text_ : ByteArray) : List AV := [.r (.v (.string text_))]
def v19 (k : Nat) (text_ : ByteArray) : R19 := (f19 k text_).getD (0, [])
theorem ev19 (k : Nat) : ∀ j, (∀ (x0 : ByteArray) (x1 : List (RTy.str.list).T) (r : R19), f19_4 k j x0 x1 = some r → Ev Tryd.prog Tryd.f19 0 (placeAt Tryd.f19 4) (st19_4 x0 x1) (res19 r) (bo19 r))
  | 0 => by
    intros; rename_i h; simp [f19_4] at h
  | j + 1 => by
    have ih := ev19 k j
    · intro x0 x1 r h
      rw [f19_4] at h
      refine Ev.tree hm (R := Rt) (K := (K19 k)) (l := []) (C := [(4, [.row 4 22 RTy.str.list, .auto [0, 4] false])]) (E := [.row 2 22 RTy.str.list, .auto [2, 3] true]) (n := 1000) (T := .test ((!x0.toList == (ByteArray.mk #[]).toList)) (.need [CC Tryd.prog 36 (args36 x0 (ByteArray.mk #[10])) [] (res36 (v36 k x0 (ByteArray.mk #[10]))) (bo36 (v36 k x0 (ByteArray.mk #[10])))] (.need [((v36 k x0 (ByteArray.mk #[(10 : UInt8)])).fst.toList == (ByteArray.mk #[]).toList) = false → (0 : Int) ≤ (0 : Int), ((v36 k x0 (ByteArray.mk #[(10 : UInt8)])).fst.toList == (ByteArray.mk #[]).toList) = false → (0 : Int) < (↑ (v36 k x0 (ByteArray.mk #[(10 : UInt8)])).fst.size : Int)] (.test (((v36 k x0 (ByteArray.mk #[(10 : UInt8)])).fst.toList == (ByteArray.mk #[]).toList || bAt (v36 k x0 (ByteArray.mk #[(10 : UInt8)])).fst (0 : Int) == (35 : Int))) (.cut 4 (placeAt Tryd.f19 4) (st19_4 ((v36 k x0 (ByteArray.mk #[10])).snd.fst) x1)) (.need [CC Tryd.prog 16 (args16 (v36 k x0 (ByteArray.mk #[10])).fst) [] (res16 (v16 k (v36 k x0 (ByteArray.mk #[10])).fst)) (bo16 (v16 k (v36 k x0 (ByteArray.mk #[10])).fst))] (.test (((v16 k (v36 k x0 (ByteArray.mk #[(10 : UInt8)])).fst).fst != (0 : Int))) (.leaf (res19 (((v16 k (v36 k x0 (ByteArray.mk #[10])).fst).fst, []))) (bo19 (((v16 k (v36 k x0 (ByteArray.mk #[10])).fst).fst, [])))) (.need [(x1.length + [(v16 k (v36 k x0 (ByteArray.mk #[(10 : UInt8)])).fst).snd].length) * (24 : Nat) ≤ (140737488355328 : Nat)] (.cut 4 (placeAt Tryd.f19 4) (st19_4 ((v36 k x0 (ByteArray.mk #[10])).snd.fst) ((x1 ++ [(v16 k (v36 k x0 (ByteArray.mk #[10])).fst).snd])))))))))) (.leaf (res19 ((0, x1))) (bo19 ((0, x1))))) (by kernel_rfl) ?_
      refine ⟨fun c => ?_, fun c => ?_⟩
      · rw [cond_t c] at h
        by_cases q : ((f36 k x0 (ByteArray.mk #[10])).isSome = true)
        · rw [if_pos q] at h
          refine ⟨(conjC (cc36 k x0 (ByteArray.mk #[10]) q) conj0), ?_⟩
          by_cases q : (((v36 k x0 (ByteArray.mk #[(10 : UInt8)])).fst.toList == (ByteArray.mk #[]).toList) = false → (0 : Int) ≤ (0 : Int)) ∧ (((v36 k x0 (ByteArray.mk #[(10 : UInt8)])).fst.toList == (ByteArray.mk #[]).toList) = false → (0 : Int) < (↑ (v36 k x0 (ByteArray.mk #[(10 : UInt8)])).fst.size : Int))
          · rw [if_pos q] at h
            refine ⟨(conjC q.1 (conjC q.2 conj0)), ?_⟩
            refine ⟨fun c => ?_, fun c => ?_⟩
            · rw [cond_t c] at h
              exact ih ((v36 k x0 (ByteArray.mk #[10])).snd.fst) x1 _ h
            · rw [cond_f c] at h
              by_cases q : ((f16 k (v36 k x0 (ByteArray.mk #[10])).fst).isSome = true)
              · rw [if_pos q] at h
                refine ⟨(conjC (cc16 k (v36 k x0 (ByteArray.mk #[10])).fst q) conj0), ?_⟩
                refine ⟨fun c => ?_, fun c => ?_⟩
                · rw [cond_t c] at h
                  cases h; exact ⟨rfl, rfl⟩
                · rw [cond_f c] at h
                  by_cases q : ((x1.length + [(v16 k (v36 k x0 (ByteArray.mk #[(10 : UInt8)])).fst).snd].length) * (24 : Nat) ≤ (140737488355328 : Nat))
                  · rw [if_pos q] at h
                    refine ⟨(conjC q conj0), ?_⟩
                    exact ih ((v36 k x0 (ByteArray.mk #[10])).snd.fst) ((x1 ++ [(v16 k (v36 k x0 (ByteArray.mk #[10])).fst).snd])) _ h
                  · rw [if_neg q] at h; cases h
              · rw [if_neg q] at h; cases h
          · rw [if_neg q] at h; cases h
        · rw [if_neg q] at h; cases h
      · rw [cond_f c] at h
        cases h; exact ⟨rfl, rfl⟩
theorem of19 (k : Nat) (text_ : ByteArray) (r : R19) (h : f19 k text_ = some r) : CC Tryd.prog 19 (args19 text_) [] (res19 r) (bo19 r) := by
  refine CC.of (fn := Tryd.f19) (by kernel_rfl) (by kernel_rfl) (by kernel_rfl) (by kernel_rfl) ?_
  unfold f19 at h
  refine Ev.tree hm (R := Rt) (K := (K19 k)) (l := []) (C := [(4, [.row 4 22 RTy.str.list, .auto [0, 4] false])]) (E := [.row 2 22 RTy.str.list, .auto [2, 3] true]) (n := 1000) (T := .test ((!text_.toList == (ByteArray.mk #[]).toList)) (.need [(!text_.toList == (ByteArray.mk #[]).toList) = true, CC Tryd.prog 24 (args24 text_ (ByteArray.mk #[10])) [] (res24 (v24 k text_ (ByteArray.mk #[10]))) (bo24 (v24 k text_ (ByteArray.mk #[10])))] (.test ((true && (!v24 k text_ (ByteArray.mk #[(10 : UInt8)])))) (.leaf (res19 ((3, []))) (bo19 ((3, [])))) (.cut 4 (placeAt Tryd.f19 4) (st19_4 text_ ([]))))) (.need [(!text_.toList == (ByteArray.mk #[]).toList) = false] (.test (false) (.leaf (res19 ((3, []))) (bo19 ((3, [])))) (.cut 4 (placeAt Tryd.f19 4) (st19_4 text_ ([])))))) (by kernel_rfl) ?_
  refine ⟨fun c => ?_, fun c => ?_⟩
  · rw [cond_t c] at h
    by_cases q : ((!text_.toList == (ByteArray.mk #[]).toList) = true) ∧ ((f24 k text_ (ByteArray.mk #[10])).isSome = true)
    · rw [if_pos q] at h
      refine ⟨(conjC q.1 (conjC (cc24 k text_ (ByteArray.mk #[10]) q.2) conj0)), ?_⟩
      refine ⟨fun c => ?_, fun c => ?_⟩
      · rw [cond_t c] at h
        cases h; exact ⟨rfl, rfl⟩
      · rw [cond_f c] at h
        exact (ev19 k k) text_ ([]) _ h
    · rw [if_neg q] at h; cases h
  · rw [cond_f c] at h
    by_cases q : ((!text_.toList == (ByteArray.mk #[]).toList) = false)
    · rw [if_pos q] at h
      refine ⟨(conjC q conj0), ?_⟩
      refine ⟨fun c => ?_, fun c => ?_⟩
      · cases c
      exact (ev19 k k) text_ ([]) _ h
    · rw [if_neg q] at h; cases h
theorem cc19 (k : Nat) (text_ : ByteArray) (h : (f19 k text_).isSome = true) : CC Tryd.prog 19 (args19 text_) [] (res19 (v19 k text_)) (bo19 (v19 k text_)) := by
  cases e : f19 k text_ with
  | none => rw [e] at h; cases h
  | some r => rw [show v19 k text_ = r by simp [v19, e]]; exact of19 k text_ r e

end
end Go.AM
namespace Go.AM
open Go Go.Proofs
set_option linter.unusedVariables false
noncomputable section
/-! ### function 21: papermill/papermillref07.SameAll -/
def K21 (k : Nat) : Calld := ⟨fun g => match g with
  | 18 => some [false, false]
  | _ => none, fun g xs _ => match g with
  | 18 => match xs with
    | [.r (.ro t0_ q0), .r (.ro t1_ q1)] => (castL t0_ RTy.str q0).bind fun a_ => (castL t1_ RTy.str q1).bind fun b_ => some (res18 (v18 k a_ b_), bo18 (v18 k a_ b_))
    | _ => none
  | _ => none⟩
abbrev R21 : Type := Bool
def res21 (r : R21) : AV := .r (.v (.bool r))
def bo21 (r : R21) : List (Nat × Blk) := []
def st21_4 (x0 : List (RTy.str.list).T) (x1 : List (RTy.str.list).T) (x2 : Int) : St := ⟨mkS 27 [(0, .r (.ro RTy.str.list x0)), (1, .r (.ro RTy.str.list x1)), (5, .r (.v (.int .i64 x2)))], []⟩
def f21_4 (k : Nat) : Nat → List (RTy.str.list).T → List (RTy.str.list).T → Int → Option R21
  | 0, _, _, _ => none
  | j + 1, x0, x1, x2 =>
    bif (decide (x2 < (↑x0.length : Int))) then
      if ((0 : Int) ≤ x2) ∧ (x2 < (↑x0.length : Int)) ∧ ((0 : Int) ≤ x2) ∧ (x2 < (↑x1.length : Int)) ∧ ((f18 k (x0.getD x2.toNat RTy.str.list.dflt) (x1.getD x2.toNat RTy.str.list.dflt)).isSome = true) then
        bif (!v18 k (x0.getD x2.toNat RTy.str.list.dflt) (x1.getD x2.toNat RTy.str.list.dflt)) then
          some false
        else
          f21_4 k j x0 x1 ((IntKind.i64.wrap (x2 + 1)))
      else none
    else
      some true
def f21 (k : Nat) (a_ : List (RTy.list RTy.str).T) (b_ : List (RTy.list RTy.str).T) : Option R21 :=
  bif ((↑a_.length : Int) != (↑b_.length : Int)) then
    some false
  else
    f21_4 k k a_ b_ 0
def args21 (a_ : List (RTy.list RTy.str).T) (b_ : List (RTy.list RTy.str).T) : List AV := [.r (.ro (RTy.list RTy.str) a_), .r (.ro (RTy.list RTy.str) b_)]
def v21 (k : Nat) (a_ : List (RTy.list RTy.str).T) (b_ : List (RTy.list RTy.str).T) : R21 := (f21 k a_ b_).getD false
theorem ev21 (k : Nat) : ∀ j, (∀ (x0 : List (RTy.str.list).T) (x1 : List (RTy.str.list).T) (x2 : Int) (r : R21), f21_4 k j x0 x1 x2 = some r → Ev Tryd.prog Tryd.f21 0 (placeAt Tryd.f21 4) (st21_4 x0 x1 x2) (res21 r) (bo21 r))
  | 0 => by
    intros; rename_i h; simp [f21_4] at h
  | j + 1 => by
    have ih := ev21 k j
    · intro x0 x1 x2 r h
      rw [f21_4] at h
      refine Ev.tree hm (R := Rt) (K := (K21 k)) (l := []) (C := [(4, [.auto [0, 1, 5] false])]) (E := [.auto [4] true]) (n := 1000) (T := .test ((decide (x2 < (↑x0.length : Int)))) (.need [(0 : Int) ≤ x2, x2 < (↑x0.length : Int), (0 : Int) ≤ x2, x2 < (↑x1.length : Int), CC Tryd.prog 18 (args18 (x0.getD x2.toNat RTy.str.list.dflt) (x1.getD x2.toNat RTy.str.list.dflt)) [] (res18 (v18 k (x0.getD x2.toNat RTy.str.list.dflt) (x1.getD x2.toNat RTy.str.list.dflt))) (bo18 (v18 k (x0.getD x2.toNat RTy.str.list.dflt) (x1.getD x2.toNat RTy.str.list.dflt)))] (.test ((!v18 k (x0.getD x2.toNat RTy.str.list.dflt) (x1.getD x2.toNat RTy.str.list.dflt))) (.leaf (res21 false) (bo21 false)) (.cut 4 (placeAt Tryd.f21 4) (st21_4 x0 x1 ((IntKind.i64.wrap (x2 + 1))))))) (.leaf (res21 true) (bo21 true))) (by kernel_rfl) ?_
      refine ⟨fun c => ?_, fun c => ?_⟩
      · rw [cond_t c] at h
        by_cases q : ((0 : Int) ≤ x2) ∧ (x2 < (↑x0.length : Int)) ∧ ((0 : Int) ≤ x2) ∧ (x2 < (↑x1.length : Int)) ∧ ((f18 k (x0.getD x2.toNat RTy.str.list.dflt) (x1.getD x2.toNat RTy.str.list.dflt)).isSome = true)
        · rw [if_pos q] at h
          refine ⟨(conjC q.1 (conjC q.2.1 (conjC q.2.2.1 (conjC q.2.2.2.1 (conjC (cc18 k (x0.getD x2.toNat RTy.str.list.dflt) (x1.getD x2.toNat RTy.str.list.dflt) q.2.2.2.2) conj0))))), ?_⟩
          refine ⟨fun c => ?_, fun c => ?_⟩
          · rw [cond_t c] at h
            cases h; exact ⟨rfl, rfl⟩
          · rw [cond_f c] at h
            exact ih x0 x1 ((IntKind.i64.wrap (x2 + 1))) _ h
        · rw [if_neg q] at h; cases h
      · rw [cond_f c] at h
        cases h; exact ⟨rfl, rfl⟩
theorem of21 (k : Nat) (a_ : List (RTy.list RTy.str).T) (b_ : List (RTy.list RTy.str).T) (r : R21) (h : f21 k a_ b_ = some r) : CC Tryd.prog 21 (args21 a_ b_) [] (res21 r) (bo21 r) := by
  refine CC.of (fn := Tryd.f21) (by kernel_rfl) (by kernel_rfl) (by kernel_rfl) (by kernel_rfl) ?_
  unfold f21 at h
  refine Ev.tree hm (R := Rt) (K := (K21 k)) (l := []) (C := [(4, [.auto [0, 1, 5] false])]) (E := [.auto [4] true]) (n := 1000) (T := .test (((↑a_.length : Int) != (↑b_.length : Int))) (.leaf (res21 false) (bo21 false)) (.cut 4 (placeAt Tryd.f21 4) (st21_4 a_ b_ 0))) (by kernel_rfl) ?_
  refine ⟨fun c => ?_, fun c => ?_⟩
  · rw [cond_t c] at h
    cases h; exact ⟨rfl, rfl⟩
  · rw [cond_f c] at h
    exact (ev21 k k) a_ b_ 0 _ h
theorem cc21 (k : Nat) (a_ : List (RTy.list RTy.str).T) (b_ : List (RTy.list RTy.str).T) (h : (f21 k a_ b_).isSome = true) : CC Tryd.prog 21 (args21 a_ b_) [] (res21 (v21 k a_ b_)) (bo21 (v21 k a_ b_)) := by
  cases e : f21 k a_ b_ with
  | none => rw [e] at h; cases h
  | some r => rw [show v21 k a_ b_ = r by simp [v21, e]]; exact of21 k a_ b_ r e

end
end Go.AM
namespace Go.AM
open Go Go.Proofs
set_option linter.unusedVariables false
noncomputable section
/-! ### function 52: internal/stringslite.CutPrefix -/
def K52 (k : Nat) : Calld := ⟨fun g => match g with
  | 40 => some [false, false]
  | _ => none, fun g xs _ => match g with
  | 40 => match xs with
    | [.r (.v (.string s_)), .r (.v (.string prefix_))] => some (res40 (v40 k s_ prefix_), bo40 (v40 k s_ prefix_))
    | _ => none
  | _ => none⟩
abbrev R52 : Type := ByteArray × Bool
def res52 (r : R52) : AV := .tup [.r (.v (.string r.1)), .r (.v (.bool r.2))]
def bo52 (r : R52) : List (Nat × Blk) := []
def f52 (k : Nat) (s_ : ByteArray) (prefix_ : ByteArray) : Option R52 :=
  if ((f40 k s_ prefix_).isSome = true) then
    bif (!v40 k s_ prefix_) then
      some ((s_, false))
    else
      if ((0 : Int) ≤ (↑prefix_.size : Int)) ∧ ((↑prefix_.size : Int) ≤ (↑s_.size : Int)) ∧ ((↑s_.size : Int) ≤ (↑s_.size : Int)) then
        some ((s_.extract (↑prefix_.size : Int).toNat (↑s_.size : Int).toNat, true))
      else none
  else none
def args52 (s_ : ByteArray) (prefix_ : ByteArray) : List AV := [.r (.v (.string s_)), .r (.v (.string prefix_))]
def v52 (k : Nat) (s_ : ByteArray) (prefix_ : ByteArray) : R52 := (f52 k s_ prefix_).getD (ByteArray.empty, false)
theorem of52 (k : Nat) (s_ : ByteArray) (prefix_ : ByteArray) (r : R52) (h : f52 k s_ prefix_ = some r) : CC Tryd.prog 52 (args52 s_ prefix_) [] (res52 r) (bo52 r) := by
  refine CC.of (fn := Tryd.f52) (by kernel_rfl) (by kernel_rfl) (by kernel_rfl) (by kernel_rfl) ?_
  unfold f52 at h
  refine Ev.tree hm (R := Rt) (K := (K52 k)) (l := []) (C := []) (E := [.auto [4, 5] true]) (n := 1000) (T := .need [CC Tryd.prog 40 (args40 s_ prefix_) [] (res40 (v40 k s_ prefix_)) (bo40 (v40 k s_ prefix_))] (.test ((!v40 k s_ prefix_)) (.leaf (res52 ((s_, false))) (bo52 ((s_, false)))) (.need [(0 : Int) ≤ (↑prefix_.size : Int), (↑prefix_.size : Int) ≤ (↑s_.size : Int), (↑s_.size : Int) ≤ (↑s_.size : Int)] (.leaf (res52 ((s_.extract (↑prefix_.size : Int).toNat (↑s_.size : Int).toNat, true))) (bo52 ((s_.extract (↑prefix_.size : Int).toNat (↑s_.size : Int).toNat, true))))))) (by kernel_rfl) ?_
  by_cases q : ((f40 k s_ prefix_).isSome = true)
  · rw [if_pos q] at h
    refine ⟨(conjC (cc40 k s_ prefix_ q) conj0), ?_⟩
    refine ⟨fun c => ?_, fun c => ?_⟩
    · rw [cond_t c] at h
      cases h; exact ⟨rfl, rfl⟩
    · rw [cond_f c] at h
      by_cases q : ((0 : Int) ≤ (↑prefix_.size : Int)) ∧ ((↑prefix_.size : Int) ≤ (↑s_.size : Int)) ∧ ((↑s_.size : Int) ≤ (↑s_.size : Int))
      · rw [if_pos q] at h
        refine ⟨(conjC q.1 (conjC q.2.1 (conjC q.2.2 conj0))), ?_⟩
        cases h; exact ⟨rfl, rfl⟩
      · rw [if_neg q] at h; cases h
  · rw [if_neg q] at h; cases h
theorem cc52 (k : Nat) (s_ : ByteArray) (prefix_ : ByteArray) (h : (f52 k s_ prefix_).isSome = true) : CC Tryd.prog 52 (args52 s_ prefix_) [] (res52 (v52 k s_ prefix_)) (bo52 (v52 k s_ prefix_)) := by
  cases e : f52 k s_ prefix_ with
  | none => rw [e] at h; cases h
  | some r => rw [show v52 k s_ prefix_ = r by simp [v52, e]]; exact of52 k s_ prefix_ r e

end
end Go.AM
namespace Go.AM
open Go Go.Proofs
set_option linter.unusedVariables false
noncomputable section
/-! ### function 37: strings.CutPrefix -/
def K37 (k : Nat) : Calld := ⟨fun g => match g with
  | 52 => some [false, false]
  | _ => none, fun g xs _ => match g with
  | 52 => match xs with
    | [.r (.v (.string s_)), .r (.v (.string prefix_))] => some (res52 (v52 k s_ prefix_), bo52 (v52 k s_ prefix_))
    | _ => none
  | _ => none⟩
abbrev R37 : Type := ByteArray × Bool
def res37 (r : R37) : AV := .tup [.r (.v (.string r.1)), .r (.v (.bool r.2))]
def bo37 (r : R37) : List (Nat × Blk) := []
def f37 (k : Nat) (s_ : ByteArray) (prefix_ : ByteArray) : Option R37 :=
  if ((f52 k s_ prefix_).isSome = true) then
    some (((v52 k s_ prefix_).fst, (v52 k s_ prefix_).snd))
  else none
def args37 (s_ : ByteArray) (prefix_ : ByteArray) : List AV := [.r (.v (.string s_)), .r (.v (.string prefix_))]
def v37 (k : Nat) (s_ : ByteArray) (prefix_ : ByteArray) : R37 := (f37 k s_ prefix_).getD (ByteArray.empty, false)
theorem of37 (k : Nat) (s_ : ByteArray) (prefix_ : ByteArray) (r : R37) (h : f37 k s_ prefix_ = some r) : CC Tryd.prog 37 (args37 s_ prefix_) [] (res37 r) (bo37 r) := by
  refine CC.of (fn := Tryd.f37) (by kernel_rfl) (by kernel_rfl) (by kernel_rfl) (by kernel_rfl) ?_
  unfold f37 at h
  refine Ev.tree hm (R := Rt) (K := (K37 k)) (l := []) (C := []) (E := [.auto [4, 5] true]) (n := 1000) (T := .need [CC Tryd.prog 52 (args52 s_ prefix_) [] (res52 (v52 k s_ prefix_)) (bo52 (v52 k s_ prefix_))] (.leaf (res37 (((v52 k s_ prefix_).fst, (v52 k s_ prefix_).snd))) (bo37 (((v52 k s_ prefix_).fst, (v52 k s_ prefix_).snd))))) (by kernel_rfl) ?_
  by_cases q : ((f52 k s_ prefix_).isSome = true)
  · rw [if_pos q] at h
    refine ⟨(conjC (cc52 k s_ prefix_ q) conj0), ?_⟩
    cases h; exact ⟨rfl, rfl⟩
  · rw [if_neg q] at h; cases h
theorem cc37 (k : Nat) (s_ : ByteArray) (prefix_ : ByteArray) (h : (f37 k s_ prefix_).isSome = true) : CC Tryd.prog 37 (args37 s_ prefix_) [] (res37 (v37 k s_ prefix_)) (bo37 (v37 k s_ prefix_)) := by
  cases e : f37 k s_ prefix_ with
  | none => rw [e] at h; cases h
  | some r => rw [show v37 k s_ prefix_ = r by simp [v37, e]]; exact of37 k s_ prefix_ r e

end
end Go.AM
namespace Go.AM
open Go Go.Proofs
set_option linter.unusedVariables false
noncomputable section
/-! ### function 22: papermill/field.Number -/
def K22 (k : Nat) : Calld := ⟨fun g => match g with
  | 37 => some [false, false]
  | _ => none, fun g xs _ => match g with
  | 37 => match xs with
    | [.r (.v (.string s_)), .r (.v (.string prefix_))] => some (res37 (v37 k s_ prefix_), bo37 (v37 k s_ prefix_))
    | _ => none
  | _ => none⟩
abbrev R22 : Type := Int × Int
def res22 (r : R22) : AV := .tup [.r (.v (.int .i64 r.1)), .r (.v (.int .i64 r.2))]
def bo22 (r : R22) : List (Nat × Blk) := []
def st22_6 (x0 : ByteArray) (x1 : Bool) (x2 : Int) (x3 : Bool) (x4 : Int) (x5 : Int) : St := ⟨mkS 54 [(4, .r (.v (.string x0))), (5, .r (.v (.bool x1))), (6, .r (.v (.int .i64 x2))), (7, .r (.v (.bool x3))), (27, .r (.v (.int .i64 x4))), (28, .r (.v (.int .i64 x5)))], []⟩
def f22_6 (k : Nat) : Nat → ByteArray → Bool → Int → Bool → Int → Int → Option R22
  | 0, _, _, _, _, _, _ => none
  | j + 1, x0, x1, x2, x3, x4, x5 =>
    bif (decide (x5 < x4)) then
      if ((0 : Int) ≤ x5) ∧ (x5 < (↑x0.size : Int)) then
        bif (decide (bAt x0 x5 < (48 : Int)) || decide (bAt x0 x5 > (57 : Int))) then
          some ((0, 3))
        else
          bif (decide (IntKind.i64.wrap (IntKind.i64.wrap ((10 : Int) * x2) + IntKind.i64.wrap (IntKind.u8.wrap (bAt x0 x5 - (48 : Int)))) > (1000000000000 : Int))) then
            f22_6 k j x0 x1 0 true x4 ((IntKind.i64.wrap (x5 + 1)))
          else
            f22_6 k j x0 x1 ((IntKind.i64.wrap (IntKind.i64.wrap (10 * x2) + IntKind.i64.wrap (IntKind.u8.wrap (bAt x0 x5 - 48))))) x3 x4 ((IntKind.i64.wrap (x5 + 1)))
      else none
    else
      bif x3 then
        some ((0, 1))
      else
        bif x1 then
          some ((IntKind.i64.wrap (0 - x2), 0))
        else
          some ((x2, 0))
def f22 (k : Nat) (s_ : ByteArray) : Option R22 :=
  if ((f37 k s_ (ByteArray.mk #[45])).isSome = true) then
    if (((v37 k s_ (ByteArray.mk #[(45 : UInt8)])).fst.toList == (ByteArray.mk #[]).toList) = false → (0 : Int) ≤ (0 : Int)) ∧ (((v37 k s_ (ByteArray.mk #[(45 : UInt8)])).fst.toList == (ByteArray.mk #[]).toList) = false → (0 : Int) < (↑ (v37 k s_ (ByteArray.mk #[(45 : UInt8)])).fst.size : Int)) then
      bif ((v37 k s_ (ByteArray.mk #[(45 : UInt8)])).fst.toList == (ByteArray.mk #[]).toList || bAt (v37 k s_ (ByteArray.mk #[(45 : UInt8)])).fst (0 : Int) == (48 : Int) && (!s_.toList == (ByteArray.mk #[(48 : UInt8)]).toList)) then
        some ((0, 3))
      else
        f22_6 k k ((v37 k s_ (ByteArray.mk #[45])).fst) ((v37 k s_ (ByteArray.mk #[45])).snd) 0 false ((↑ (v37 k s_ (ByteArray.mk #[45])).fst.size : Int)) 0
    else none
  else none
def args22 (s_ : ByteArray) : List AV := [.r (.v (.string s_))]
def v22 (k : Nat) (s_ : ByteArray) : R22 := (f22 k s_).getD (0, 0)
theorem ev22 (k : Nat) : ∀ j, (∀ (x0 : ByteArray) (x1 : Bool) (x2 : Int) (x3 : Bool) (x4 : Int) (x5 : Int) (r : R22), f22_6 k j x0 x1 x2 x3 x4 x5 = some r → Ev Tryd.prog Tryd.f22 0 (placeAt Tryd.f22 6) (st22_6 x0 x1 x2 x3 x4 x5) (res22 r) (bo22 r))
  | 0 => by
    intros; rename_i h; simp [f22_6] at h
  | j + 1 => by
    have ih := ev22 k j
    · intro x0 x1 x2 x3 x4 x5 r h
      rw [f22_6] at h
      refine Ev.tree hm (R := Rt) (K := (K22 k)) (l := []) (C := [(6, [.auto [4, 5, 6, 7, 27, 28] false])]) (E := [.auto [2, 3] true]) (n := 1000) (T := .test ((decide (x5 < x4))) (.need [(0 : Int) ≤ x5, x5 < (↑x0.size : Int)] (.test ((decide (bAt x0 x5 < (48 : Int)) || decide (bAt x0 x5 > (57 : Int)))) (.leaf (res22 ((0, 3))) (bo22 ((0, 3)))) (.test ((decide (IntKind.i64.wrap (IntKind.i64.wrap ((10 : Int) * x2) + IntKind.i64.wrap (IntKind.u8.wrap (bAt x0 x5 - (48 : Int)))) > (1000000000000 : Int)))) (.cut 6 (placeAt Tryd.f22 6) (st22_6 x0 x1 0 true x4 ((IntKind.i64.wrap (x5 + 1))))) (.cut 6 (placeAt Tryd.f22 6) (st22_6 x0 x1 ((IntKind.i64.wrap (IntKind.i64.wrap (10 * x2) + IntKind.i64.wrap (IntKind.u8.wrap (bAt x0 x5 - 48))))) x3 x4 ((IntKind.i64.wrap (x5 + 1)))))))) (.test (x3) (.leaf (res22 ((0, 1))) (bo22 ((0, 1)))) (.test (x1) (.leaf (res22 ((IntKind.i64.wrap (0 - x2), 0))) (bo22 ((IntKind.i64.wrap (0 - x2), 0)))) (.leaf (res22 ((x2, 0))) (bo22 ((x2, 0))))))) (by kernel_rfl) ?_
      refine ⟨fun c => ?_, fun c => ?_⟩
      · rw [cond_t c] at h
        by_cases q : ((0 : Int) ≤ x5) ∧ (x5 < (↑x0.size : Int))
        · rw [if_pos q] at h
          refine ⟨(conjC q.1 (conjC q.2 conj0)), ?_⟩
          refine ⟨fun c => ?_, fun c => ?_⟩
          · rw [cond_t c] at h
            cases h; exact ⟨rfl, rfl⟩
          · rw [cond_f c] at h
            refine ⟨fun c => ?_, fun c => ?_⟩
            · rw [cond_t c] at h
              exact ih x0 x1 0 true x4 ((IntKind.i64.wrap (x5 + 1))) _ h
            · rw [cond_f c] at h
              exact ih x0 x1 ((IntKind.i64.wrap (IntKind.i64.wrap (10 * x2) + IntKind.i64.wrap (IntKind.u8.wrap (bAt x0 x5 - 48))))) x3 x4 ((IntKind.i64.wrap (x5 + 1))) _ h
        · rw [if_neg q] at h; cases h
      · rw [cond_f c] at h
        refine ⟨fun c => ?_, fun c => ?_⟩
        · rw [cond_t c] at h
          cases h; exact ⟨rfl, rfl⟩
        · rw [cond_f c] at h
          refine ⟨fun c => ?_, fun c => ?_⟩
          · rw [cond_t c] at h
            cases h; exact ⟨rfl, rfl⟩
          · rw [cond_f c] at h
            cases h; exact ⟨rfl, rfl⟩
theorem of22 (k : Nat) (s_ : ByteArray) (r : R22) (h : f22 k s_ = some r) : CC Tryd.prog 22 (args22 s_) [] (res22 r) (bo22 r) := by
  refine CC.of (fn := Tryd.f22) (by kernel_rfl) (by kernel_rfl) (by kernel_rfl) (by kernel_rfl) ?_
  unfold f22 at h
  refine Ev.tree hm (R := Rt) (K := (K22 k)) (l := []) (C := [(6, [.auto [4, 5, 6, 7, 27, 28] false])]) (E := [.auto [2, 3] true]) (n := 1000) (T := .need [CC Tryd.prog 37 (args37 s_ (ByteArray.mk #[45])) [] (res37 (v37 k s_ (ByteArray.mk #[45]))) (bo37 (v37 k s_ (ByteArray.mk #[45])))] (.need [((v37 k s_ (ByteArray.mk #[(45 : UInt8)])).fst.toList == (ByteArray.mk #[]).toList) = false → (0 : Int) ≤ (0 : Int), ((v37 k s_ (ByteArray.mk #[(45 : UInt8)])).fst.toList == (ByteArray.mk #[]).toList) = false → (0 : Int) < (↑ (v37 k s_ (ByteArray.mk #[(45 : UInt8)])).fst.size : Int)] (.test (((v37 k s_ (ByteArray.mk #[(45 : UInt8)])).fst.toList == (ByteArray.mk #[]).toList || bAt (v37 k s_ (ByteArray.mk #[(45 : UInt8)])).fst (0 : Int) == (48 : Int) && (!s_.toList == (ByteArray.mk #[(48 : UInt8)]).toList))) (.leaf (res22 ((0, 3))) (bo22 ((0, 3)))) (.cut 6 (placeAt Tryd.f22 6) (st22_6 ((v37 k s_ (ByteArray.mk #[45])).fst) ((v37 k s_ (ByteArray.mk #[45])).snd) 0 false ((↑ (v37 k s_ (ByteArray.mk #[45])).fst.size : Int)) 0))))) (by kernel_rfl) ?_
  by_cases q : ((f37 k s_ (ByteArray.mk #[45])).isSome = true)
  · rw [if_pos q] at h
    refine ⟨(conjC (cc37 k s_ (ByteArray.mk #[45]) q) conj0), ?_⟩
    by_cases q : (((v37 k s_ (ByteArray.mk #[(45 : UInt8)])).fst.toList == (ByteArray.mk #[]).toList) = false → (0 : Int) ≤ (0 : Int)) ∧ (((v37 k s_ (ByteArray.mk #[(45 : UInt8)])).fst.toList == (ByteArray.mk #[]).toList) = false → (0 : Int) < (↑ (v37 k s_ (ByteArray.mk #[(45 : UInt8)])).fst.size : Int))
    · rw [if_pos q] at h
      refine ⟨(conjC q.1 (conjC q.2 conj0)), ?_⟩
      refine ⟨fun c => ?_, fun c => ?_⟩
      · rw [cond_t c] at h
        cases h; exact ⟨rfl, rfl⟩
      · rw [cond_f c] at h
        exact (ev22 k k) ((v37 k s_ (ByteArray.mk #[45])).fst) ((v37 k s_ (ByteArray.mk #[45])).snd) 0 false ((↑ (v37 k s_ (ByteArray.mk #[45])).fst.size : Int)) 0 _ h
    · rw [if_neg q] at h; cases h
  · rw [if_neg q] at h; cases h
theorem cc22 (k : Nat) (s_ : ByteArray) (h : (f22 k s_).isSome = true) : CC Tryd.prog 22 (args22 s_) [] (res22 (v22 k s_)) (bo22 (v22 k s_)) := by
  cases e : f22 k s_ with
  | none => rw [e] at h; cases h
  | some r => rw [show v22 k s_ = r by simp [v22, e]]; exact of22 k s_ r e

end
end Go.AM
namespace Go.AM
open Go Go.Proofs
set_option linter.unusedVariables false
noncomputable section
def bs_H07df13_0 : ByteArray := ByteArray.mk #[35, 32, 120, 10, 97, 32, 98, 10, 10]
def bs_H07df13_1 : ByteArray := ByteArray.mk #[49, 48, 48, 48, 48, 48, 48, 48, 48, 48, 48, 48, 49]
def bs_H07df13_2 : ByteArray := ByteArray.mk #[45, 49, 48, 48, 48, 48, 48, 48, 48, 48, 48, 48, 48, 48]
def bs_H07df13_3 : ByteArray := ByteArray.mk #[(97 : UInt8), (32 : UInt8), (34 : UInt8), (34 : UInt8), (32 : UInt8), (34 : UInt8), (98 : UInt8), (92 : UInt8), (34 : UInt8), (99 : UInt8), (34 : UInt8)]
def bs_H07df13_4 : ByteArray := ByteArray.mk #[(35 : UInt8), (32 : UInt8), (120 : UInt8), (10 : UInt8), (97 : UInt8), (32 : UInt8), (98 : UInt8), (10 : UInt8), (10 : UInt8)]
/-! ### function 13: papermill/papermilllaw07.awake -/
def K13 (k : Nat) : Calld := ⟨fun g => match g with
  | 14 => some [false]
  | 16 => some [false]
  | 18 => some [false, false]
  | 19 => some [false]
  | 21 => some [false, false]
  | 22 => some [false]
  | _ => none, fun g xs _ => match g with
  | 14 => match xs with
    | [.r (.ro t0_ q0)] => (castL t0_ RTy.str q0).bind fun fields_ => some (res14 (v14 k fields_), bo14 (v14 k fields_))
    | _ => none
  | 16 => match xs with
    | [.r (.v (.string line_))] => some (res16 (v16 k line_), bo16 (v16 k line_))
    | _ => none
  | 18 => match xs with
    | [.r (.ro t0_ q0), .r (.ro t1_ q1)] => (castL t0_ RTy.str q0).bind fun a_ => (castL t1_ RTy.str q1).bind fun b_ => some (res18 (v18 k a_ b_), bo18 (v18 k a_ b_))
    | _ => none
  | 19 => match xs with
    | [.r (.v (.string text_))] => some (res19 (v19 k text_), bo19 (v19 k text_))
    | _ => none
  | 21 => match xs with
    | [.r (.ro t0_ q0), .r (.ro t1_ q1)] => (castL t0_ (RTy.list RTy.str) q0).bind fun a_ => (castL t1_ (RTy.list RTy.str) q1).bind fun b_ => some (res21 (v21 k a_ b_), bo21 (v21 k a_ b_))
    | _ => none
  | 22 => match xs with
    | [.r (.v (.string s_))] => some (res22 (v22 k s_), bo22 (v22 k s_))
    | _ => none
  | _ => none⟩
abbrev R13 : Type := Bool
def res13 (r : R13) : AV := .r (.v (.bool r))
def bo13 (r : R13) : List (Nat × Blk) := []
def f13 (k : Nat)  : Option R13 :=
  if ((f14 k [(ByteArray.mk #[97]), (ByteArray.mk #[]), (ByteArray.mk #[98, 34, 99])]).isSome = true) then
    if ((f16 k (v14 k [(ByteArray.mk #[97]), (ByteArray.mk #[]), (ByteArray.mk #[98, 34, 99])]).fst).isSome = true) then
      if ((f16 k (ByteArray.mk #[97, 32, 32, 98])).isSome = true) then
        if ((f16 k (ByteArray.mk #[34, 97, 34])).isSome = true) then
          if ((f16 k (ByteArray.mk #[97, 34, 98])).isSome = true) then
            if ((f19 k bs_H07df13_0).isSome = true) then
              if ((f22 k (ByteArray.mk #[45, 48])).isSome = true) then
                if ((f22 k bs_H07df13_1).isSome = true) then
                  if ((f22 k bs_H07df13_2).isSome = true) then
                    bif ((v14 k [(ByteArray.mk #[(97 : UInt8)]), (ByteArray.mk #[]), (ByteArray.mk #[(98 : UInt8), (34 : UInt8), (99 : UInt8)])]).snd == (0 : Int) && (v14 k [(ByteArray.mk #[(97 : UInt8)]), (ByteArray.mk #[]), (ByteArray.mk #[(98 : UInt8), (34 : UInt8), (99 : UInt8)])]).fst.toList == bs_H07df13_3.toList && (v16 k (v14 k [(ByteArray.mk #[(97 : UInt8)]), (ByteArray.mk #[]), (ByteArray.mk #[(98 : UInt8), (34 : UInt8), (99 : UInt8)])]).fst).fst == (0 : Int)) then
                      bif (true && v18 k (v16 k (v14 k [(ByteArray.mk #[(97 : UInt8)]), (ByteArray.mk #[]), (ByteArray.mk #[(98 : UInt8), (34 : UInt8), (99 : UInt8)])]).fst).snd [(ByteArray.mk #[(97 : UInt8)]), (ByteArray.mk #[]), (ByteArray.mk #[(98 : UInt8), (34 : UInt8), (99 : UInt8)])] && (v16 k (ByteArray.mk #[(97 : UInt8), (32 : UInt8), (32 : UInt8), (98 : UInt8)])).fst == (3 : Int) && (v16 k (ByteArray.mk #[(34 : UInt8), (97 : UInt8), (34 : UInt8)])).fst == (3 : Int) && (v16 k (ByteArray.mk #[(97 : UInt8), (34 : UInt8), (98 : UInt8)])).fst == (3 : Int) && (v19 k bs_H07df13_4).fst == (0 : Int)) then
                        if (((v14 k [(ByteArray.mk #[(97 : UInt8)]), (ByteArray.mk #[]), (ByteArray.mk #[(98 : UInt8), (34 : UInt8), (99 : UInt8)])]).snd == (0 : Int) && (v14 k [(ByteArray.mk #[(97 : UInt8)]), (ByteArray.mk #[]), (ByteArray.mk #[(98 : UInt8), (34 : UInt8), (99 : UInt8)])]).fst.toList == bs_H07df13_3.toList && (v16 k (v14 k [(ByteArray.mk #[(97 : UInt8)]), (ByteArray.mk #[]), (ByteArray.mk #[(98 : UInt8), (34 : UInt8), (99 : UInt8)])]).fst).fst == (0 : Int)) = true) ∧ ((f18 k (v16 k (v14 k [(ByteArray.mk #[97]), (ByteArray.mk #[]), (ByteArray.mk #[98, 34, 99])]).fst).snd [(ByteArray.mk #[97]), (ByteArray.mk #[]), (ByteArray.mk #[98, 34, 99])]).isSome = true) ∧ ((true && v18 k (v16 k (v14 k [(ByteArray.mk #[(97 : UInt8)]), (ByteArray.mk #[]), (ByteArray.mk #[(98 : UInt8), (34 : UInt8), (99 : UInt8)])]).fst).snd [(ByteArray.mk #[(97 : UInt8)]), (ByteArray.mk #[]), (ByteArray.mk #[(98 : UInt8), (34 : UInt8), (99 : UInt8)])] && (v16 k (ByteArray.mk #[(97 : UInt8), (32 : UInt8), (32 : UInt8), (98 : UInt8)])).fst == (3 : Int) && (v16 k (ByteArray.mk #[(34 : UInt8), (97 : UInt8), (34 : UInt8)])).fst == (3 : Int) && (v16 k (ByteArray.mk #[(97 : UInt8), (34 : UInt8), (98 : UInt8)])).fst == (3 : Int) && (v19 k bs_H07df13_4).fst == (0 : Int)) = true) ∧ ((f21 k (v19 k bs_H07df13_0).snd [[(ByteArray.mk #[97]), (ByteArray.mk #[98])]]).isSome = true) then
                          some (true && v21 k (v19 k bs_H07df13_0).snd [[(ByteArray.mk #[97]), (ByteArray.mk #[98])]] && (v22 k (ByteArray.mk #[45, 48])).snd == 3 && (v22 k bs_H07df13_1).snd == 1 && (v22 k bs_H07df13_2).fst == (-1000000000000) && (v22 k bs_H07df13_2).snd == 0)
                        else none
                      else
                        if (((v14 k [(ByteArray.mk #[(97 : UInt8)]), (ByteArray.mk #[]), (ByteArray.mk #[(98 : UInt8), (34 : UInt8), (99 : UInt8)])]).snd == (0 : Int) && (v14 k [(ByteArray.mk #[(97 : UInt8)]), (ByteArray.mk #[]), (ByteArray.mk #[(98 : UInt8), (34 : UInt8), (99 : UInt8)])]).fst.toList == bs_H07df13_3.toList && (v16 k (v14 k [(ByteArray.mk #[(97 : UInt8)]), (ByteArray.mk #[]), (ByteArray.mk #[(98 : UInt8), (34 : UInt8), (99 : UInt8)])]).fst).fst == (0 : Int)) = true) ∧ ((f18 k (v16 k (v14 k [(ByteArray.mk #[97]), (ByteArray.mk #[]), (ByteArray.mk #[98, 34, 99])]).fst).snd [(ByteArray.mk #[97]), (ByteArray.mk #[]), (ByteArray.mk #[98, 34, 99])]).isSome = true) ∧ ((true && v18 k (v16 k (v14 k [(ByteArray.mk #[(97 : UInt8)]), (ByteArray.mk #[]), (ByteArray.mk #[(98 : UInt8), (34 : UInt8), (99 : UInt8)])]).fst).snd [(ByteArray.mk #[(97 : UInt8)]), (ByteArray.mk #[]), (ByteArray.mk #[(98 : UInt8), (34 : UInt8), (99 : UInt8)])] && (v16 k (ByteArray.mk #[(97 : UInt8), (32 : UInt8), (32 : UInt8), (98 : UInt8)])).fst == (3 : Int) && (v16 k (ByteArray.mk #[(34 : UInt8), (97 : UInt8), (34 : UInt8)])).fst == (3 : Int) && (v16 k (ByteArray.mk #[(97 : UInt8), (34 : UInt8), (98 : UInt8)])).fst == (3 : Int) && (v19 k bs_H07df13_4).fst == (0 : Int)) = false) then
                          some (false && (v22 k (ByteArray.mk #[45, 48])).snd == 3 && (v22 k bs_H07df13_1).snd == 1 && (v22 k bs_H07df13_2).fst == (-1000000000000) && (v22 k bs_H07df13_2).snd == 0)
                        else none
                    else
                      bif (false && (v16 k (ByteArray.mk #[(97 : UInt8), (32 : UInt8), (32 : UInt8), (98 : UInt8)])).fst == (3 : Int) && (v16 k (ByteArray.mk #[(34 : UInt8), (97 : UInt8), (34 : UInt8)])).fst == (3 : Int) && (v16 k (ByteArray.mk #[(97 : UInt8), (34 : UInt8), (98 : UInt8)])).fst == (3 : Int) && (v19 k bs_H07df13_4).fst == (0 : Int)) then
                        if (((v14 k [(ByteArray.mk #[(97 : UInt8)]), (ByteArray.mk #[]), (ByteArray.mk #[(98 : UInt8), (34 : UInt8), (99 : UInt8)])]).snd == (0 : Int) && (v14 k [(ByteArray.mk #[(97 : UInt8)]), (ByteArray.mk #[]), (ByteArray.mk #[(98 : UInt8), (34 : UInt8), (99 : UInt8)])]).fst.toList == bs_H07df13_3.toList && (v16 k (v14 k [(ByteArray.mk #[(97 : UInt8)]), (ByteArray.mk #[]), (ByteArray.mk #[(98 : UInt8), (34 : UInt8), (99 : UInt8)])]).fst).fst == (0 : Int)) = false) ∧ ((false && (v16 k (ByteArray.mk #[(97 : UInt8), (32 : UInt8), (32 : UInt8), (98 : UInt8)])).fst == (3 : Int) && (v16 k (ByteArray.mk #[(34 : UInt8), (97 : UInt8), (34 : UInt8)])).fst == (3 : Int) && (v16 k (ByteArray.mk #[(97 : UInt8), (34 : UInt8), (98 : UInt8)])).fst == (3 : Int) && (v19 k bs_H07df13_4).fst == (0 : Int)) = true) ∧ ((f21 k (v19 k bs_H07df13_0).snd [[(ByteArray.mk #[97]), (ByteArray.mk #[98])]]).isSome = true) then
                          some (true && v21 k (v19 k bs_H07df13_0).snd [[(ByteArray.mk #[97]), (ByteArray.mk #[98])]] && (v22 k (ByteArray.mk #[45, 48])).snd == 3 && (v22 k bs_H07df13_1).snd == 1 && (v22 k bs_H07df13_2).fst == (-1000000000000) && (v22 k bs_H07df13_2).snd == 0)
                        else none
                      else
                        if (((v14 k [(ByteArray.mk #[(97 : UInt8)]), (ByteArray.mk #[]), (ByteArray.mk #[(98 : UInt8), (34 : UInt8), (99 : UInt8)])]).snd == (0 : Int) && (v14 k [(ByteArray.mk #[(97 : UInt8)]), (ByteArray.mk #[]), (ByteArray.mk #[(98 : UInt8), (34 : UInt8), (99 : UInt8)])]).fst.toList == bs_H07df13_3.toList && (v16 k (v14 k [(ByteArray.mk #[(97 : UInt8)]), (ByteArray.mk #[]), (ByteArray.mk #[(98 : UInt8), (34 : UInt8), (99 : UInt8)])]).fst).fst == (0 : Int)) = false) ∧ ((false && (v16 k (ByteArray.mk #[(97 : UInt8), (32 : UInt8), (32 : UInt8), (98 : UInt8)])).fst == (3 : Int) && (v16 k (ByteArray.mk #[(34 : UInt8), (97 : UInt8), (34 : UInt8)])).fst == (3 : Int) && (v16 k (ByteArray.mk #[(97 : UInt8), (34 : UInt8), (98 : UInt8)])).fst == (3 : Int) && (v19 k bs_H07df13_4).fst == (0 : Int)) = false) then
                          some (false && (v22 k (ByteArray.mk #[45, 48])).snd == 3 && (v22 k bs_H07df13_1).snd == 1 && (v22 k bs_H07df13_2).fst == (-1000000000000) && (v22 k bs_H07df13_2).snd == 0)
                        else none
                  else none
                else none
              else none
            else none
          else none
        else none
      else none
    else none
  else none
def args13  : List AV := []
def v13 (k : Nat)  : R13 := (f13 k ).getD false
theorem of13 (k : Nat)  (r : R13) (h : f13 k  = some r) : CC Tryd.prog 13 (args13 ) [] (res13 r) (bo13 r) := by
  refine CC.of (fn := Tryd.f13) (by kernel_rfl) (by kernel_rfl) (by kernel_rfl) (by kernel_rfl) ?_
  unfold f13 at h
  refine Ev.tree hm (R := Rt) (K := (K13 k)) (l := []) (C := []) (E := [.auto [0] true]) (n := 1000) (T := .need [CC Tryd.prog 14 (args14 [(ByteArray.mk #[97]), (ByteArray.mk #[]), (ByteArray.mk #[98, 34, 99])]) [] (res14 (v14 k [(ByteArray.mk #[97]), (ByteArray.mk #[]), (ByteArray.mk #[98, 34, 99])])) (bo14 (v14 k [(ByteArray.mk #[97]), (ByteArray.mk #[]), (ByteArray.mk #[98, 34, 99])]))] (.need [CC Tryd.prog 16 (args16 (v14 k [(ByteArray.mk #[97]), (ByteArray.mk #[]), (ByteArray.mk #[98, 34, 99])]).fst) [] (res16 (v16 k (v14 k [(ByteArray.mk #[97]), (ByteArray.mk #[]), (ByteArray.mk #[98, 34, 99])]).fst)) (bo16 (v16 k (v14 k [(ByteArray.mk #[97]), (ByteArray.mk #[]), (ByteArray.mk #[98, 34, 99])]).fst))] (.need [CC Tryd.prog 16 (args16 (ByteArray.mk #[97, 32, 32, 98])) [] (res16 (v16 k (ByteArray.mk #[97, 32, 32, 98]))) (bo16 (v16 k (ByteArray.mk #[97, 32, 32, 98])))] (.need [CC Tryd.prog 16 (args16 (ByteArray.mk #[34, 97, 34])) [] (res16 (v16 k (ByteArray.mk #[34, 97, 34]))) (bo16 (v16 k (ByteArray.mk #[34, 97, 34])))] (.need [CC Tryd.prog 16 (args16 (ByteArray.mk #[97, 34, 98])) [] (res16 (v16 k (ByteArray.mk #[97, 34, 98]))) (bo16 (v16 k (ByteArray.mk #[97, 34, 98])))] (.need [CC Tryd.prog 19 (args19 bs_H07df13_0) [] (res19 (v19 k bs_H07df13_0)) (bo19 (v19 k bs_H07df13_0))] (.need [CC Tryd.prog 22 (args22 (ByteArray.mk #[45, 48])) [] (res22 (v22 k (ByteArray.mk #[45, 48]))) (bo22 (v22 k (ByteArray.mk #[45, 48])))] (.need [CC Tryd.prog 22 (args22 bs_H07df13_1) [] (res22 (v22 k bs_H07df13_1)) (bo22 (v22 k bs_H07df13_1))] (.need [CC Tryd.prog 22 (args22 bs_H07df13_2) [] (res22 (v22 k bs_H07df13_2)) (bo22 (v22 k bs_H07df13_2))] (.test (((v14 k [(ByteArray.mk #[(97 : UInt8)]), (ByteArray.mk #[]), (ByteArray.mk #[(98 : UInt8), (34 : UInt8), (99 : UInt8)])]).snd == (0 : Int) && (v14 k [(ByteArray.mk #[(97 : UInt8)]), (ByteArray.mk #[]), (ByteArray.mk #[(98 : UInt8), (34 : UInt8), (99 : UInt8)])]).fst.toList == bs_H07df13_3.toList && (v16 k (v14 k [(ByteArray.mk #[(97 : UInt8)]), (ByteArray.mk #[]), (ByteArray.mk #[(98 : UInt8), (34 : UInt8), (99 : UInt8)])]).fst).fst == (0 : Int))) (.test ((true && v18 k (v16 k (v14 k [(ByteArray.mk #[(97 : UInt8)]), (ByteArray.mk #[]), (ByteArray.mk #[(98 : UInt8), (34 : UInt8), (99 : UInt8)])]).fst).snd [(ByteArray.mk #[(97 : UInt8)]), (ByteArray.mk #[]), (ByteArray.mk #[(98 : UInt8), (34 : UInt8), (99 : UInt8)])] && (v16 k (ByteArray.mk #[(97 : UInt8), (32 : UInt8), (32 : UInt8), (98 : UInt8)])).fst == (3 : Int) && (v16 k (ByteArray.mk #[(34 : UInt8), (97 : UInt8), (34 : UInt8)])).fst == (3 : Int) && (v16 k (ByteArray.mk #[(97 : UInt8), (34 : UInt8), (98 : UInt8)])).fst == (3 : Int) && (v19 k bs_H07df13_4).fst == (0 : Int))) (.need [((v14 k [(ByteArray.mk #[(97 : UInt8)]), (ByteArray.mk #[]), (ByteArray.mk #[(98 : UInt8), (34 : UInt8), (99 : UInt8)])]).snd == (0 : Int) && (v14 k [(ByteArray.mk #[(97 : UInt8)]), (ByteArray.mk #[]), (ByteArray.mk #[(98 : UInt8), (34 : UInt8), (99 : UInt8)])]).fst.toList == bs_H07df13_3.toList && (v16 k (v14 k [(ByteArray.mk #[(97 : UInt8)]), (ByteArray.mk #[]), (ByteArray.mk #[(98 : UInt8), (34 : UInt8), (99 : UInt8)])]).fst).fst == (0 : Int)) = true, CC Tryd.prog 18 (args18 (v16 k (v14 k [(ByteArray.mk #[97]), (ByteArray.mk #[]), (ByteArray.mk #[98, 34, 99])]).fst).snd [(ByteArray.mk #[97]), (ByteArray.mk #[]), (ByteArray.mk #[98, 34, 99])]) [] (res18 (v18 k (v16 k (v14 k [(ByteArray.mk #[97]), (ByteArray.mk #[]), (ByteArray.mk #[98, 34, 99])]).fst).snd [(ByteArray.mk #[97]), (ByteArray.mk #[]), (ByteArray.mk #[98, 34, 99])])) (bo18 (v18 k (v16 k (v14 k [(ByteArray.mk #[97]), (ByteArray.mk #[]), (ByteArray.mk #[98, 34, 99])]).fst).snd [(ByteArray.mk #[97]), (ByteArray.mk #[]), (ByteArray.mk #[98, 34, 99])])), (true && v18 k (v16 k (v14 k [(ByteArray.mk #[(97 : UInt8)]), (ByteArray.mk #[]), (ByteArray.mk #[(98 : UInt8), (34 : UInt8), (99 : UInt8)])]).fst).snd [(ByteArray.mk #[(97 : UInt8)]), (ByteArray.mk #[]), (ByteArray.mk #[(98 : UInt8), (34 : UInt8), (99 : UInt8)])] && (v16 k (ByteArray.mk #[(97 : UInt8), (32 : UInt8), (32 : UInt8), (98 : UInt8)])).fst == (3 : Int) && (v16 k (ByteArray.mk #[(34 : UInt8), (97 : UInt8), (34 : UInt8)])).fst == (3 : Int) && (v16 k (ByteArray.mk #[(97 : UInt8), (34 : UInt8), (98 : UInt8)])).fst == (3 : Int) && (v19 k bs_H07df13_4).fst == (0 : Int)) = true, CC Tryd.prog 21 (args21 (v19 k bs_H07df13_0).snd [[(ByteArray.mk #[97]), (ByteArray.mk #[98])]]) [] (res21 (v21 k (v19 k bs_H07df13_0).snd [[(ByteArray.mk #[97]), (ByteArray.mk #[98])]])) (bo21 (v21 k (v19 k bs_H07df13_0).snd [[(ByteArray.mk #[97]), (ByteArray.mk #[98])]]))] (.leaf (res13 (true && v21 k (v19 k bs_H07df13_0).snd [[(ByteArray.mk #[97]), (ByteArray.mk #[98])]] && (v22 k (ByteArray.mk #[45, 48])).snd == 3 && (v22 k bs_H07df13_1).snd == 1 && (v22 k bs_H07df13_2).fst == (-1000000000000) && (v22 k bs_H07df13_2).snd == 0)) (bo13 (true && v21 k (v19 k bs_H07df13_0).snd [[(ByteArray.mk #[97]), (ByteArray.mk #[98])]] && (v22 k (ByteArray.mk #[45, 48])).snd == 3 && (v22 k bs_H07df13_1).snd == 1 && (v22 k bs_H07df13_2).fst == (-1000000000000) && (v22 k bs_H07df13_2).snd == 0)))) (.need [((v14 k [(ByteArray.mk #[(97 : UInt8)]), (ByteArray.mk #[]), (ByteArray.mk #[(98 : UInt8), (34 : UInt8), (99 : UInt8)])]).snd == (0 : Int) && (v14 k [(ByteArray.mk #[(97 : UInt8)]), (ByteArray.mk #[]), (ByteArray.mk #[(98 : UInt8), (34 : UInt8), (99 : UInt8)])]).fst.toList == bs_H07df13_3.toList && (v16 k (v14 k [(ByteArray.mk #[(97 : UInt8)]), (ByteArray.mk #[]), (ByteArray.mk #[(98 : UInt8), (34 : UInt8), (99 : UInt8)])]).fst).fst == (0 : Int)) = true, CC Tryd.prog 18 (args18 (v16 k (v14 k [(ByteArray.mk #[97]), (ByteArray.mk #[]), (ByteArray.mk #[98, 34, 99])]).fst).snd [(ByteArray.mk #[97]), (ByteArray.mk #[]), (ByteArray.mk #[98, 34, 99])]) [] (res18 (v18 k (v16 k (v14 k [(ByteArray.mk #[97]), (ByteArray.mk #[]), (ByteArray.mk #[98, 34, 99])]).fst).snd [(ByteArray.mk #[97]), (ByteArray.mk #[]), (ByteArray.mk #[98, 34, 99])])) (bo18 (v18 k (v16 k (v14 k [(ByteArray.mk #[97]), (ByteArray.mk #[]), (ByteArray.mk #[98, 34, 99])]).fst).snd [(ByteArray.mk #[97]), (ByteArray.mk #[]), (ByteArray.mk #[98, 34, 99])])), (true && v18 k (v16 k (v14 k [(ByteArray.mk #[(97 : UInt8)]), (ByteArray.mk #[]), (ByteArray.mk #[(98 : UInt8), (34 : UInt8), (99 : UInt8)])]).fst).snd [(ByteArray.mk #[(97 : UInt8)]), (ByteArray.mk #[]), (ByteArray.mk #[(98 : UInt8), (34 : UInt8), (99 : UInt8)])] && (v16 k (ByteArray.mk #[(97 : UInt8), (32 : UInt8), (32 : UInt8), (98 : UInt8)])).fst == (3 : Int) && (v16 k (ByteArray.mk #[(34 : UInt8), (97 : UInt8), (34 : UInt8)])).fst == (3 : Int) && (v16 k (ByteArray.mk #[(97 : UInt8), (34 : UInt8), (98 : UInt8)])).fst == (3 : Int) && (v19 k bs_H07df13_4).fst == (0 : Int)) = false] (.leaf (res13 (false && (v22 k (ByteArray.mk #[45, 48])).snd == 3 && (v22 k bs_H07df13_1).snd == 1 && (v22 k bs_H07df13_2).fst == (-1000000000000) && (v22 k bs_H07df13_2).snd == 0)) (bo13 (false && (v22 k (ByteArray.mk #[45, 48])).snd == 3 && (v22 k bs_H07df13_1).snd == 1 && (v22 k bs_H07df13_2).fst == (-1000000000000) && (v22 k bs_H07df13_2).snd == 0))))) (.test ((false && (v16 k (ByteArray.mk #[(97 : UInt8), (32 : UInt8), (32 : UInt8), (98 : UInt8)])).fst == (3 : Int) && (v16 k (ByteArray.mk #[(34 : UInt8), (97 : UInt8), (34 : UInt8)])).fst == (3 : Int) && (v16 k (ByteArray.mk #[(97 : UInt8), (34 : UInt8), (98 : UInt8)])).fst == (3 : Int) && (v19 k bs_H07df13_4).fst == (0 : Int))) (.need [((v14 k [(ByteArray.mk #[(97 : UInt8)]), (ByteArray.mk #[]), (ByteArray.mk #[(98 : UInt8), (34 : UInt8), (99 : UInt8)])]).snd == (0 : Int) && (v14 k [(ByteArray.mk #[(97 : UInt8)]), (ByteArray.mk #[]), (ByteArray.mk #[(98 : UInt8), (34 : UInt8), (99 : UInt8)])]).fst.toList == bs_H07df13_3.toList && (v16 k (v14 k [(ByteArray.mk #[(97 : UInt8)]), (ByteArray.mk #[]), (ByteArray.mk #[(98 : UInt8), (34 : UInt8), (99 : UInt8)])]).fst).fst == (0 : Int)) = false, (false && (v16 k (ByteArray.mk #[(97 : UInt8), (32 : UInt8), (32 : UInt8), (98 : UInt8)])).fst == (3 : Int) && (v16 k (ByteArray.mk #[(34 : UInt8), (97 : UInt8), (34 : UInt8)])).fst == (3 : Int) && (v16 k (ByteArray.mk #[(97 : UInt8), (34 : UInt8), (98 : UInt8)])).fst == (3 : Int) && (v19 k bs_H07df13_4).fst == (0 : Int)) = true, CC Tryd.prog 21 (args21 (v19 k bs_H07df13_0).snd [[(ByteArray.mk #[97]), (ByteArray.mk #[98])]]) [] (res21 (v21 k (v19 k bs_H07df13_0).snd [[(ByteArray.mk #[97]), (ByteArray.mk #[98])]])) (bo21 (v21 k (v19 k bs_H07df13_0).snd [[(ByteArray.mk #[97]), (ByteArray.mk #[98])]]))] (.leaf (res13 (true && v21 k (v19 k bs_H07df13_0).snd [[(ByteArray.mk #[97]), (ByteArray.mk #[98])]] && (v22 k (ByteArray.mk #[45, 48])).snd == 3 && (v22 k bs_H07df13_1).snd == 1 && (v22 k bs_H07df13_2).fst == (-1000000000000) && (v22 k bs_H07df13_2).snd == 0)) (bo13 (true && v21 k (v19 k bs_H07df13_0).snd [[(ByteArray.mk #[97]), (ByteArray.mk #[98])]] && (v22 k (ByteArray.mk #[45, 48])).snd == 3 && (v22 k bs_H07df13_1).snd == 1 && (v22 k bs_H07df13_2).fst == (-1000000000000) && (v22 k bs_H07df13_2).snd == 0)))) (.need [((v14 k [(ByteArray.mk #[(97 : UInt8)]), (ByteArray.mk #[]), (ByteArray.mk #[(98 : UInt8), (34 : UInt8), (99 : UInt8)])]).snd == (0 : Int) && (v14 k [(ByteArray.mk #[(97 : UInt8)]), (ByteArray.mk #[]), (ByteArray.mk #[(98 : UInt8), (34 : UInt8), (99 : UInt8)])]).fst.toList == bs_H07df13_3.toList && (v16 k (v14 k [(ByteArray.mk #[(97 : UInt8)]), (ByteArray.mk #[]), (ByteArray.mk #[(98 : UInt8), (34 : UInt8), (99 : UInt8)])]).fst).fst == (0 : Int)) = false, (false && (v16 k (ByteArray.mk #[(97 : UInt8), (32 : UInt8), (32 : UInt8), (98 : UInt8)])).fst == (3 : Int) && (v16 k (ByteArray.mk #[(34 : UInt8), (97 : UInt8), (34 : UInt8)])).fst == (3 : Int) && (v16 k (ByteArray.mk #[(97 : UInt8), (34 : UInt8), (98 : UInt8)])).fst == (3 : Int) && (v19 k bs_H07df13_4).fst == (0 : Int)) = false] (.leaf (res13 (false && (v22 k (ByteArray.mk #[45, 48])).snd == 3 && (v22 k bs_H07df13_1).snd == 1 && (v22 k bs_H07df13_2).fst == (-1000000000000) && (v22 k bs_H07df13_2).snd == 0)) (bo13 (false && (v22 k (ByteArray.mk #[45, 48])).snd == 3 && (v22 k bs_H07df13_1).snd == 1 && (v22 k bs_H07df13_2).fst == (-1000000000000) && (v22 k bs_H07df13_2).snd == 0))))))))))))))) (by kernel_rfl) ?_
  by_cases q : ((f14 k [(ByteArray.mk #[97]), (ByteArray.mk #[]), (ByteArray.mk #[98, 34, 99])]).isSome = true)
  · rw [if_pos q] at h
    refine ⟨(conjC (cc14 k [(ByteArray.mk #[97]), (ByteArray.mk #[]), (ByteArray.mk #[98, 34, 99])] q) conj0), ?_⟩
    by_cases q : ((f16 k (v14 k [(ByteArray.mk #[97]), (ByteArray.mk #[]), (ByteArray.mk #[98, 34, 99])]).fst).isSome = true)
    · rw [if_pos q] at h
      refine ⟨(conjC (cc16 k (v14 k [(ByteArray.mk #[97]), (ByteArray.mk #[]), (ByteArray.mk #[98, 34, 99])]).fst q) conj0), ?_⟩
      by_cases q : ((f16 k (ByteArray.mk #[97, 32, 32, 98])).isSome = true)
      · rw [if_pos q] at h
        refine ⟨(conjC (cc16 k (ByteArray.mk #[97, 32, 32, 98]) q) conj0), ?_⟩
        by_cases q : ((f16 k (ByteArray.mk #[34, 97, 34])).isSome = true)
        · rw [if_pos q] at h
          refine ⟨(conjC (cc16 k (ByteArray.mk #[34, 97, 34]) q) conj0), ?_⟩
          by_cases q : ((f16 k (ByteArray.mk #[97, 34, 98])).isSome = true)
          · rw [if_pos q] at h
            refine ⟨(conjC (cc16 k (ByteArray.mk #[97, 34, 98]) q) conj0), ?_⟩
            by_cases q : ((f19 k bs_H07df13_0).isSome = true)
            · rw [if_pos q] at h
              refine ⟨(conjC (cc19 k bs_H07df13_0 q) conj0), ?_⟩
              by_cases q : ((f22 k (ByteArray.mk #[45, 48])).isSome = true)
              · rw [if_pos q] at h
                refine ⟨(conjC (cc22 k (ByteArray.mk #[45, 48]) q) conj0), ?_⟩
                by_cases q : ((f22 k bs_H07df13_1).isSome = true)
                · rw [if_pos q] at h
                  refine ⟨(conjC (cc22 k bs_H07df13_1 q) conj0), ?_⟩
                  by_cases q : ((f22 k bs_H07df13_2).isSome = true)
                  · rw [if_pos q] at h
                    refine ⟨(conjC (cc22 k bs_H07df13_2 q) conj0), ?_⟩
                    refine ⟨fun c => ?_, fun c => ?_⟩
                    · rw [cond_t c] at h
                      refine ⟨fun c => ?_, fun c => ?_⟩
                      · rw [cond_t c] at h
                        by_cases q : (((v14 k [(ByteArray.mk #[(97 : UInt8)]), (ByteArray.mk #[]), (ByteArray.mk #[(98 : UInt8), (34 : UInt8), (99 : UInt8)])]).snd == (0 : Int) && (v14 k [(ByteArray.mk #[(97 : UInt8)]), (ByteArray.mk #[]), (ByteArray.mk #[(98 : UInt8), (34 : UInt8), (99 : UInt8)])]).fst.toList == bs_H07df13_3.toList && (v16 k (v14 k [(ByteArray.mk #[(97 : UInt8)]), (ByteArray.mk #[]), (ByteArray.mk #[(98 : UInt8), (34 : UInt8), (99 : UInt8)])]).fst).fst == (0 : Int)) = true) ∧ ((f18 k (v16 k (v14 k [(ByteArray.mk #[97]), (ByteArray.mk #[]), (ByteArray.mk #[98, 34, 99])]).fst).snd [(ByteArray.mk #[97]), (ByteArray.mk #[]), (ByteArray.mk #[98, 34, 99])]).isSome = true) ∧ ((true && v18 k (v16 k (v14 k [(ByteArray.mk #[(97 : UInt8)]), (ByteArray.mk #[]), (ByteArray.mk #[(98 : UInt8), (34 : UInt8), (99 : UInt8)])]).fst).snd [(ByteArray.mk #[(97 : UInt8)]), (ByteArray.mk #[]), (ByteArray.mk #[(98 : UInt8), (34 : UInt8), (99 : UInt8)])] && (v16 k (ByteArray.mk #[(97 : UInt8), (32 : UInt8), (32 : UInt8), (98 : UInt8)])).fst == (3 : Int) && (v16 k (ByteArray.mk #[(34 : UInt8), (97 : UInt8), (34 : UInt8)])).fst == (3 : Int) && (v16 k (ByteArray.mk #[(97 : UInt8), (34 : UInt8), (98 : UInt8)])).fst == (3 : Int) && (v19 k bs_H07df13_4).fst == (0 : Int)) = true) ∧ ((f21 k (v19 k bs_H07df13_0).snd [[(ByteArray.mk #[97]), (ByteArray.mk #[98])]]).isSome = true)
                        · rw [if_pos q] at h
                          refine ⟨(conjC q.1 (conjC (cc18 k (v16 k (v14 k [(ByteArray.mk #[97]), (ByteArray.mk #[]), (ByteArray.mk #[98, 34, 99])]).fst).snd [(ByteArray.mk #[97]), (ByteArray.mk #[]), (ByteArray.mk #[98, 34, 99])] q.2.1) (conjC q.2.2.1 (conjC (cc21 k (v19 k bs_H07df13_0).snd [[(ByteArray.mk #[97]), (ByteArray.mk #[98])]] q.2.2.2) conj0)))), ?_⟩
                          cases h; exact ⟨rfl, rfl⟩
                        · rw [if_neg q] at h; cases h
                      · rw [cond_f c] at h
                        by_cases q : (((v14 k [(ByteArray.mk #[(97 : UInt8)]), (ByteArray.mk #[]), (ByteArray.mk #[(98 : UInt8), (34 : UInt8), (99 : UInt8)])]).snd == (0 : Int) && (v14 k [(ByteArray.mk #[(97 : UInt8)]), (ByteArray.mk #[]), (ByteArray.mk #[(98 : UInt8), (34 : UInt8), (99 : UInt8)])]).fst.toList == bs_H07df13_3.toList && (v16 k (v14 k [(ByteArray.mk #[(97 : UInt8)]), (ByteArray.mk #[]), (ByteArray.mk #[(98 : UInt8), (34 : UInt8), (99 : UInt8)])]).fst).fst == (0 : Int)) = true) ∧ ((f18 k (v16 k (v14 k [(ByteArray.mk #[97]), (ByteArray.mk #[]), (ByteArray.mk #[98, 34, 99])]).fst).snd [(ByteArray.mk #[97]), (ByteArray.mk #[]), (ByteArray.mk #[98, 34, 99])]).isSome = true) ∧ ((true && v18 k (v16 k (v14 k [(ByteArray.mk #[(97 : UInt8)]), (ByteArray.mk #[]), (ByteArray.mk #[(98 : UInt8), (34 : UInt8), (99 : UInt8)])]).fst).snd [(ByteArray.mk #[(97 : UInt8)]), (ByteArray.mk #[]), (ByteArray.mk #[(98 : UInt8), (34 : UInt8), (99 : UInt8)])] && (v16 k (ByteArray.mk #[(97 : UInt8), (32 : UInt8), (32 : UInt8), (98 : UInt8)])).fst == (3 : Int) && (v16 k (ByteArray.mk #[(34 : UInt8), (97 : UInt8), (34 : UInt8)])).fst == (3 : Int) && (v16 k (ByteArray.mk #[(97 : UInt8), (34 : UInt8), (98 : UInt8)])).fst == (3 : Int) && (v19 k bs_H07df13_4).fst == (0 : Int)) = false)
                        · rw [if_pos q] at h
                          refine ⟨(conjC q.1 (conjC (cc18 k (v16 k (v14 k [(ByteArray.mk #[97]), (ByteArray.mk #[]), (ByteArray.mk #[98, 34, 99])]).fst).snd [(ByteArray.mk #[97]), (ByteArray.mk #[]), (ByteArray.mk #[98, 34, 99])] q.2.1) (conjC q.2.2 conj0))), ?_⟩
                          cases h; exact ⟨rfl, rfl⟩
                        · rw [if_neg q] at h; cases h
                    · rw [cond_f c] at h
                      refine ⟨fun c => ?_, fun c => ?_⟩
                      · rw [cond_t c] at h
                        by_cases q : (((v14 k [(ByteArray.mk #[(97 : UInt8)]), (ByteArray.mk #[]), (ByteArray.mk #[(98 : UInt8), (34 : UInt8), (99 : UInt8)])]).snd == (0 : Int) && (v14 k [(ByteArray.mk #[(97 : UInt8)]), (ByteArray.mk #[]), (ByteArray.mk #[(98 : UInt8), (34 : UInt8), (99 : UInt8)])]).fst.toList == bs_H07df13_3.toList && (v16 k (v14 k [(ByteArray.mk #[(97 : UInt8)]), (ByteArray.mk #[]), (ByteArray.mk #[(98 : UInt8), (34 : UInt8), (99 : UInt8)])]).fst).fst == (0 : Int)) = false) ∧ ((false && (v16 k (ByteArray.mk #[(97 : UInt8), (32 : UInt8), (32 : UInt8), (98 : UInt8)])).fst == (3 : Int) && (v16 k (ByteArray.mk #[(34 : UInt8), (97 : UInt8), (34 : UInt8)])).fst == (3 : Int) && (v16 k (ByteArray.mk #[(97 : UInt8), (34 : UInt8), (98 : UInt8)])).fst == (3 : Int) && (v19 k bs_H07df13_4).fst == (0 : Int)) = true) ∧ ((f21 k (v19 k bs_H07df13_0).snd [[(ByteArray.mk #[97]), (ByteArray.mk #[98])]]).isSome = true)
                        · rw [if_pos q] at h
                          refine ⟨(conjC q.1 (conjC q.2.1 (conjC (cc21 k (v19 k bs_H07df13_0).snd [[(ByteArray.mk #[97]), (ByteArray.mk #[98])]] q.2.2) conj0))), ?_⟩
                          cases h; exact ⟨rfl, rfl⟩
                        · rw [if_neg q] at h; cases h
                      · rw [cond_f c] at h
                        by_cases q : (((v14 k [(ByteArray.mk #[(97 : UInt8)]), (ByteArray.mk #[]), (ByteArray.mk #[(98 : UInt8), (34 : UInt8), (99 : UInt8)])]).snd == (0 : Int) && (v14 k [(ByteArray.mk #[(97 : UInt8)]), (ByteArray.mk #[]), (ByteArray.mk #[(98 : UInt8), (34 : UInt8), (99 : UInt8)])]).fst.toList == bs_H07df13_3.toList && (v16 k (v14 k [(ByteArray.mk #[(97 : UInt8)]), (ByteArray.mk #[]), (ByteArray.mk #[(98 : UInt8), (34 : UInt8), (99 : UInt8)])]).fst).fst == (0 : Int)) = false) ∧ ((false && (v16 k (ByteArray.mk #[(97 : UInt8), (32 : UInt8), (32 : UInt8), (98 : UInt8)])).fst == (3 : Int) && (v16 k (ByteArray.mk #[(34 : UInt8), (97 : UInt8), (34 : UInt8)])).fst == (3 : Int) && (v16 k (ByteArray.mk #[(97 : UInt8), (34 : UInt8), (98 : UInt8)])).fst == (3 : Int) && (v19 k bs_H07df13_4).fst == (0 : Int)) = false)
                        · rw [if_pos q] at h
                          refine ⟨(conjC q.1 (conjC q.2 conj0)), ?_⟩
                          cases h; exact ⟨rfl, rfl⟩
                        · rw [if_neg q] at h; cases h
                  · rw [if_neg q] at h; cases h
                · rw [if_neg q] at h; cases h
              · rw [if_neg q] at h; cases h
            · rw [if_neg q] at h; cases h
          · rw [if_neg q] at h; cases h
        · rw [if_neg q] at h; cases h
      · rw [if_neg q] at h; cases h
    · rw [if_neg q] at h; cases h
  · rw [if_neg q] at h; cases h
theorem cc13 (k : Nat)  (h : (f13 k ).isSome = true) : CC Tryd.prog 13 (args13 ) [] (res13 (v13 k )) (bo13 (v13 k )) := by
  cases e : f13 k  with
  | none => rw [e] at h; cases h
  | some r => rw [show v13 k  = r by simp [v13, e]]; exact of13 k  r e

end
end Go.AM
namespace Go.AM
open Go Go.Proofs
def KK : Nat := 600
theorem f13_t : f13 KK = some true := by kernel_rfl
theorem u8_id {i : Int} (h0 : 0 ≤ i) (h1 : i < 256) : IntKind.u8.wrap i = i := by
  simp [IntKind.wrap, IntKind.bits, IntKind.signed]; omega

theorem tl_data (s : ByteArray) : s.toList = s.data.toList := Lib.toList_data s

end Go.AM
namespace Go.AM
open Go Go.Proofs
def ng (s : ByteArray) : Bool := (!s.toList == (ByteArray.mk #[]).toList && bAt s (0 : Int) == (45 : Int))
theorem u45 (b : UInt8) : (b == 45) = (((b.toNat : Nat) : Int) == 45) := by
  rw [Bool.eq_iff_iff, beq_iff_eq, beq_iff_eq]
  constructor
  · intro h; subst h; rfl
  · intro h
    apply UInt8.toNat_inj.1
    have : b.toNat = 45 := by omega
    rw [this]; rfl
theorem neg_eq (s : ByteArray) : (decide ((↑s.size : Int) ≥ (↑(ByteArray.mk #[45]).size : Int)) && (s.extract (Int.toNat 0) (↑(ByteArray.mk #[45]).size : Int).toNat).toList == (ByteArray.mk #[45]).toList) = ng s := by
  unfold ng
  rw [tl_data, tl_data, tl_data, tl_data]
  obtain ⟨⟨l⟩⟩ := s
  cases l with
  | nil => rfl
  | cons b l =>
    have h : (⟨⟨b :: l⟩⟩ : ByteArray).size = l.length + 1 := by simp [ByteArray.size]
    have h2 : ((⟨⟨b :: l⟩⟩ : ByteArray).extract 0 1).data.toList = [b] := by
      rw [ByteArray.data_extract]; simp
    have h3 : (ByteArray.mk #[45]).size = 1 := rfl
    rw [h3, h]
    rw [show ((1 : Nat) : Int).toNat = 1 from rfl, show Int.toNat 0 = 0 from rfl, h2]
    rw [decide_eq_true (by omega)]
    have h4 : bAt ⟨⟨b :: l⟩⟩ 0 = (b.toNat : Int) := rfl
    rw [h4, ← u45]
    simp
theorem if_some {α β : Type} (x : α) (a b : β) : (if (some x).isSome = true then a else b) = a := rfl
theorem f37_s (k : Nat) (s : ByteArray) : f37 k s (ByteArray.mk #[45]) = some (bif ng s then (s.extract 1 s.size, true) else (s, false)) := by
  have e40 : f40 k s (ByteArray.mk #[45]) = some (ng s) := by
    unfold f40
    rw [neg_eq, if_pos ⟨fun _ => by omega, fun _ => by omega, fun h => by simpa using h⟩]
  have v40e : v40 k s (ByteArray.mk #[45]) = ng s := by unfold v40; rw [e40]; rfl
  have e52 : f52 k s (ByteArray.mk #[45]) = some (bif ng s then (s.extract 1 s.size, true) else (s, false)) := by
    unfold f52
    rw [e40, v40e, if_some]
    cases hn : ng s
    · rfl
    · have hs : 1 ≤ s.size := by
        rw [← neg_eq] at hn
        simp only [Bool.and_eq_true, decide_eq_true_eq] at hn
        have h3 : (ByteArray.mk #[45]).size = 1 := rfl
        rw [h3] at hn; omega
      have h3 : (ByteArray.mk #[45]).size = 1 := rfl
      simp only [h3, Bool.not_true, cond_false, cond_true]
      rw [if_pos ⟨by omega, by omega, by omega⟩]
      rfl
  have v52e : v52 k s (ByteArray.mk #[45]) = (bif ng s then (s.extract 1 s.size, true) else (s, false)) := by unfold v52; rw [e52]; rfl
  unfold f37
  rw [e52, v52e, if_some]
end Go.AM
namespace Go.AM
open Go Go.Proofs
theorem ne_size {s : ByteArray} (h : (s.toList == (ByteArray.mk #[]).toList) = false) : (0 : Int) < (s.size : Int) := by
  rw [tl_data, tl_data] at h
  obtain ⟨⟨l⟩⟩ := s
  cases l with
  | nil => cases h
  | cons b l => simp [ByteArray.size]
theorem bAt_get (s : ByteArray) (i : Nat) (b : UInt8) (h : s.data.toList[i]? = some b) : bAt s (i : Int) = (b.toNat : Int) := by
  unfold bAt
  rw [show ((i : Nat) : Int).toNat = i from rfl, List.getD_eq_getElem?_getD, h]; rfl
theorem size_len (s : ByteArray) : s.data.toList.length = s.size := rfl
theorem drop_at (s : ByteArray) (i : Nat) (h : i < s.size) : ∃ b, s.data.toList[i]? = some b ∧ s.data.toList.drop i = b :: s.data.toList.drop (i + 1) := by
  have h' : i < s.data.toList.length := h
  exact ⟨s.data.toList[i], by simp, by rw [List.drop_eq_getElem_cons h']⟩

theorem emp (s : ByteArray) : (s.toList == (ByteArray.mk #[]).toList) = s.data.toList.isEmpty := by
  rw [tl_data, tl_data]
  cases s.data.toList <;> rfl
end Go.AM
namespace Go.AM
open Go Go.Lib

/-! ### decimal digits and their value -/
def dgt (b : UInt8) : Bool := decide (48 ≤ b.toNat) && decide (b.toNat ≤ 57)
def val (l : List UInt8) : Nat := l.foldl (fun a b => 10 * a + (b.toNat - 48)) 0
theorem val_snoc (l : List UInt8) (b : UInt8) : val (l ++ [b]) = 10 * val l + (b.toNat - 48) := by simp [val]
theorem dgt_b {b : UInt8} (h : dgt b = true) : 48 ≤ b.toNat ∧ b.toNat ≤ 57 := by
  unfold dgt at h
  simpa using h
theorem of_dg (b : UInt8) (h : dgt b = true) : UInt8.ofNat (48 + (b.toNat - 48)) = b := by
  have := dgt_b h
  rw [show 48 + (b.toNat - 48) = b.toNat by omega]; simp
theorem dg_of (n : Nat) (h : n < 10) : (UInt8.ofNat (48 + n)).toNat = 48 + n := UInt8.toNat_ofNat_of_lt' (by simp [UInt8.size]; omega)
theorem dec_s {n : Nat} (h : n < 10) : decDigits n = [UInt8.ofNat (48 + n)] := by rw [decDigits, dif_pos h]
theorem dec_b {n : Nat} (h : ¬ n < 10) : decDigits n = decDigits (n / 10) ++ [UInt8.ofNat (48 + n % 10)] := by
  conv => lhs; rw [decDigits, dif_neg h]
/-- the digits of a number: all digits, the value is the number, no leading zero but of 0 -/
theorem dec_ok : ∀ (m n : Nat), n < m → (decDigits n).all dgt = true ∧ val (decDigits n) = n ∧ (∃ b r, decDigits n = b :: r ∧ (b = 48 → n = 0 ∧ r = []))
  | 0, n, h => by omega
  | m + 1, n, h => by
    by_cases hn : n < 10
    · rw [dec_s hn]
      have hd := dg_of n hn
      refine ⟨?_, ?_, _, _, rfl, fun e => ⟨?_, rfl⟩⟩
      · simp [dgt, hd]; omega
      · show 10 * 0 + ((UInt8.ofNat (48 + n)).toNat - 48) = n
        rw [hd]; omega
      · have := congrArg UInt8.toNat e
        rw [hd] at this
        have h48 : (48 : UInt8).toNat = 48 := rfl
        omega
    · obtain ⟨h1, h2, b, r, h3, h4⟩ := dec_ok m (n / 10) (by omega)
      rw [dec_b hn]
      have hd := dg_of (n % 10) (by omega)
      refine ⟨?_, ?_, b, r ++ [UInt8.ofNat (48 + n % 10)], by rw [h3]; rfl, fun e => ?_⟩
      · rw [List.all_append, h1]; simp [dgt, hd]; omega
      · rw [val_snoc, h2, hd]; omega
      · have := (h4 e).1; omega
theorem fold_mono : ∀ (l : List UInt8) (a : Nat), a ≤ l.foldl (fun a b => 10 * a + (b.toNat - 48)) a
  | [], a => Nat.le_refl a
  | x :: l, a => Nat.le_trans (by omega : a ≤ 10 * a + (x.toNat - 48)) (fold_mono l _)
theorem val_pos (l : List UInt8) (b : UInt8) (h : dgt b = true) (hb : b ≠ 48) : 0 < val (b :: l) := by
  have h1 := dgt_b h
  have h2 : b.toNat ≠ 48 := fun e => hb (UInt8.toNat_inj.1 e)
  have := fold_mono l (10 * 0 + (b.toNat - 48))
  show 0 < l.foldl _ (10 * 0 + (b.toNat - 48))
  omega
/-- digits without a leading zero are the digits of their value -/
theorem dec_val (c : UInt8) (hc : dgt c = true) (h0 : c ≠ 48) : ∀ l : List UInt8, l.all dgt = true → decDigits (val (c :: l.reverse)) = c :: l.reverse
  | [], _ => by
    have := dgt_b hc
    have e : val [c] = c.toNat - 48 := by simp [val]
    show decDigits (val [c]) = [c]
    rw [e, dec_s (by omega), of_dg c hc]
  | b :: l, h => by
    rw [List.all_cons, Bool.and_eq_true] at h
    have ih := dec_val c hc h0 l h.2
    have hb := dgt_b h.1
    have hp := val_pos l.reverse c hc h0
    rw [List.reverse_cons, ← List.cons_append, val_snoc, dec_b (by omega), show (10 * val (c :: l.reverse) + (b.toNat - 48)) / 10 = val (c :: l.reverse) by omega, show (10 * val (c :: l.reverse) + (b.toNat - 48)) % 10 = b.toNat - 48 by omega, ih, of_dg b h.1]
end Go.AM
namespace Go.AM
open Go Go.Lib

def numR (neg : Bool) (l : List UInt8) : Int × Int := if l.all dgt = true then (if (val l : Int) ≤ 1000000000000 then (if neg = true then 0 - (val l : Int) else (val l : Int), 0) else (0, 1)) else (0, 3)
theorem take_snoc (l : List UInt8) (i : Nat) (b : UInt8) (h : l[i]? = some b) : l.take (i + 1) = l.take i ++ [b] := by
  rw [List.take_add_one, h]; rfl
theorem loopD (k : Nat) (d : ByteArray) (neg : Bool) (hd : d.size ≤ 1000) : ∀ (j i : Nat) (n : Int) (g : Bool), i ≤ d.size → d.size - i < j → 0 ≤ n → n ≤ 1000000000000 →
    (g = false → n = (val (d.data.toList.take i) : Int)) → (g = true → 1000000000000 < (val (d.data.toList.take i) : Int)) → (d.data.toList.take i).all dgt = true →
      f22_6 k j d neg n g (d.size : Int) (i : Int) = some (numR neg d.data.toList)
  | 0, i, n, g, _, h, _, _, _, _, _ => by omega
  | j + 1, i, n, g, hi, hj, h0, h1, h4, h5, ha => by
    unfold f22_6
    by_cases hlt : i < d.size
    · obtain ⟨b, hb, hdr⟩ := drop_at d i hlt
      have ht := take_snoc _ _ _ hb
      rw [decide_eq_true (by omega : (i : Int) < (d.size : Int)), cond_true, if_pos ⟨by omega, by omega⟩, bAt_get d i b hb]
      have hv : val (d.data.toList.take (i + 1)) = 10 * val (d.data.toList.take i) + (b.toNat - 48) := by rw [ht, val_snoc]
      cases hc : dgt b
      · have : (decide ((b.toNat : Int) < 48) || decide ((b.toNat : Int) > 57)) = true := by
          unfold dgt at hc
          simp only [Bool.and_eq_false_iff, decide_eq_false_iff_not] at hc
          simp only [Bool.or_eq_true, decide_eq_true_eq]
          omega
        have hn : ¬ d.data.toList.all dgt = true := fun h => by
          rw [← List.take_append_drop i d.data.toList, hdr, List.all_append, List.all_cons, hc] at h
          simp at h
        rw [this, cond_true, numR, if_neg hn]
      · have hb2 := dgt_b hc
        have : (decide ((b.toNat : Int) < 48) || decide ((b.toNat : Int) > 57)) = false := by
          rw [decide_eq_false (by omega), decide_eq_false (by omega)]; rfl
        have hta : (d.data.toList.take (i + 1)).all dgt = true := by rw [ht, List.all_append, ha]; simp [hc]
        rw [this, cond_false, u8_id (by omega) (by omega), wrap_id (i := (b.toNat : Int) - 48) (by omega) (by omega), wrap_id (i := 10 * n) (by omega) (by omega), wrap_id (i := 10 * n + ((b.toNat : Int) - 48)) (by omega) (by omega), wrapS i (by omega)]
        cases hg : decide (10 * n + ((b.toNat : Int) - 48) > 1000000000000)
        · rw [cond_false]
          have hg' := of_decide_eq_false hg
          exact loopD k d neg hd j (i + 1) _ g (by omega) (by omega) (by omega) (by omega) (fun e => by have := h4 e; omega) (fun e => by have := h5 e; omega) hta
        · rw [cond_true]
          have hg' := of_decide_eq_true hg
          exact loopD k d neg hd j (i + 1) _ true (by omega) (by omega) (by omega) (by omega) (fun e => by cases e) (fun e => by
            cases g with
            | false => have := h4 rfl; omega
            | true => have := h5 rfl; omega) hta
    · have he : d.data.toList.take i = d.data.toList := List.take_of_length_le (by rw [size_len]; omega)
      rw [he] at h4 h5 ha
      rw [decide_eq_false (by omega : ¬ (i : Int) < (d.size : Int)), cond_false, numR, if_pos ha]
      cases g with
      | true => rw [if_neg (by have := h5 rfl; omega)]; rfl
      | false =>
        have := h4 rfl
        rw [if_pos (by omega), cond_false, ← this]
        cases neg
        · rfl
        · rw [cond_true, wrap_id (i := 0 - n) (by omega) (by omega)]; rfl
end Go.AM
namespace Go.AM
open Go Go.Lib

def dig (s : ByteArray) : ByteArray := if ng s = true then s.extract 1 s.size else s
def top (s : ByteArray) : Int × Int := bif ((dig s).toList == (ByteArray.mk #[]).toList || bAt (dig s) (0 : Int) == (48 : Int) && !s.toList == (ByteArray.mk #[(48 : UInt8)]).toList) then (0, 3) else numR (ng s) (dig s).data.toList
theorem f22_top (k : Nat) (hk : 300 ≤ k) (s : ByteArray) (hs : s.size ≤ 200) : f22 k s = some (top s) := by
  have hv : v37 k s (ByteArray.mk #[45]) = (dig s, ng s) := by
    unfold v37 dig; rw [f37_s]
    cases ng s <;> rfl
  have hd : (dig s).size ≤ 200 := by
    unfold dig; split
    · simp; omega
    · omega
  unfold f22 top
  rw [hv, f37_s, if_some]
  have hq : (((dig s).toList == (ByteArray.mk #[]).toList) = false → (0 : Int) ≤ (0 : Int)) ∧ (((dig s).toList == (ByteArray.mk #[]).toList) = false → (0 : Int) < (↑(dig s).size : Int)) := ⟨fun _ => by omega, fun h => ne_size h⟩
  rw [if_pos hq]
  cases ((dig s).toList == (ByteArray.mk #[]).toList || bAt (dig s) (0 : Int) == (48 : Int) && !s.toList == (ByteArray.mk #[(48 : UInt8)]).toList)
  · rw [cond_false, cond_false]
    have := loopD k (dig s) (ng s) (by omega) k 0 0 false (by omega) (by omega) (by omega) (by omega) (fun _ => rfl) (fun h => by cases h) rfl
    rw [show ((0 : Nat) : Int) = 0 from rfl] at this
    exact this
  · rfl
end Go.AM
namespace Go.AM
open Go Go.Lib

def ngL (l : List UInt8) : Bool := l.head? == some 45
def dL (l : List UInt8) : List UInt8 := if ngL l = true then l.tail else l
def topL (l : List UInt8) : Int × Int := bif ((dL l).isEmpty || ((dL l).head? == some 48 && !(l == [48]))) then (0, 3) else numR (ngL l) (dL l)
theorem u48 (b : UInt8) : (((b.toNat : Nat) : Int) == (48 : Int)) = (b == 48) := by
  rw [Bool.eq_iff_iff, beq_iff_eq, beq_iff_eq]
  constructor
  · intro h
    apply UInt8.toNat_inj.1
    have : b.toNat = 48 := by omega
    rw [this]; rfl
  · intro h; subst h; rfl
theorem ng_L (s : ByteArray) : ng s = ngL s.data.toList := by
  unfold ng ngL
  rw [emp]
  unfold bAt
  cases s.data.toList with
  | nil => rfl
  | cons b l =>
    show (!false && (((b.toNat : Nat) : Int) == 45)) = (some b == some 45)
    rw [← u45]; rfl
theorem dig_L (s : ByteArray) : (dig s).data.toList = dL s.data.toList := by
  unfold dig dL
  rw [ng_L]
  cases ngL s.data.toList
  · rfl
  · rw [if_pos rfl, if_pos rfl, ByteArray.data_extract, Array.toList_extract, List.extract_eq_take_drop, List.drop_one]
    exact List.take_of_length_le (by rw [List.length_tail, size_len]; exact Nat.le_refl _)
theorem top_L (s : ByteArray) : top s = topL s.data.toList := by
  unfold top topL
  rw [emp, dig_L, ng_L, tl_data, tl_data]
  have h : bAt (dig s) 0 = (((dL s.data.toList).getD 0 0).toNat : Int) := by unfold bAt; rw [dig_L]; rfl
  rw [h, u48]
  cases dL s.data.toList with
  | nil => rfl
  | cons b l => rfl

/-! ### the two laws -/
theorem topL_itoa (n : Int) : topL (itoa n) = if -1000000000000 ≤ n ∧ n ≤ 1000000000000 then (n, 0) else (0, 1) := by
  unfold itoa
  by_cases hn : n < 0
  · rw [if_pos hn]
    obtain ⟨h1, h2, b, r, h3, h4⟩ := dec_ok (n.natAbs + 1) n.natAbs (by omega)
    have hb : ¬ b = 48 := fun e => by have := (h4 e).1; omega
    have e1 : ngL (45 :: decDigits n.natAbs) = true := rfl
    have e2 : dL (45 :: decDigits n.natAbs) = decDigits n.natAbs := rfl
    unfold topL
    rw [e1, e2]
    have e3 : ((decDigits n.natAbs).isEmpty || ((decDigits n.natAbs).head? == some 48 && !(45 :: decDigits n.natAbs == [48]))) = false := by
      rw [h3]; simp [hb]
    rw [e3, cond_false, numR, if_pos h1, h2]
    by_cases hr : (n.natAbs : Int) ≤ 1000000000000
    · rw [if_pos hr, if_pos rfl, if_pos (by omega), show 0 - (n.natAbs : Int) = n by omega]
    · rw [if_neg hr, if_neg (by omega)]
  · rw [if_neg hn]
    obtain ⟨h1, h2, b, r, h3, h4⟩ := dec_ok (n.toNat + 1) n.toNat (by omega)
    have hb45 : ¬ b = 45 := fun e => by
      rw [h3, List.all_cons, e] at h1
      have : dgt 45 = false := by decide
      rw [this] at h1; cases h1
    have e1 : ngL (decDigits n.toNat) = false := by rw [h3]; simp [ngL, hb45]
    have e2 : dL (decDigits n.toNat) = decDigits n.toNat := by unfold dL; rw [e1]; rfl
    unfold topL
    rw [e2, e1]
    have e3 : ((decDigits n.toNat).isEmpty || ((decDigits n.toNat).head? == some 48 && !(decDigits n.toNat == [48]))) = false := by
      rw [h3]
      by_cases e : b = 48
      · rw [e, (h4 e).2]; rfl
      · simp [e]
    rw [e3, cond_false, numR, if_pos h1, h2]
    by_cases hr : (n.toNat : Int) ≤ 1000000000000
    · rw [if_pos hr, if_neg (by decide), if_pos (by omega), show (n.toNat : Int) = n by omega]
    · rw [if_neg hr, if_neg (by omega)]
end Go.AM
namespace Go.AM
open Go Go.Lib

theorem topL_back (l : List UInt8) : ((topL l).2 ≠ 0 ∧ (topL l).1 = 0) ∨ ((topL l).2 = 0 ∧ itoa (topL l).1 = l ∧ -1000000000000 ≤ (topL l).1 ∧ (topL l).1 ≤ 1000000000000) := by
  unfold topL
  cases hc : ((dL l).isEmpty || ((dL l).head? == some 48 && !(l == [48])))
  · rw [cond_false]
    unfold numR
    by_cases ha : (dL l).all dgt = true
    · rw [if_pos ha]
      by_cases hv : (val (dL l) : Int) ≤ 1000000000000
      · rw [if_pos hv]
        right
        refine ⟨rfl, ?_, ?_, ?_⟩
        · rw [Bool.or_eq_false_iff] at hc
          obtain ⟨hc1, hc2⟩ := hc
          show itoa (if ngL l = true then 0 - (val (dL l) : Int) else (val (dL l) : Int)) = l
          cases hd : dL l with
          | nil => rw [hd] at hc1; cases hc1
          | cons b r =>
            rw [hd] at hc2 ha
            rw [List.all_cons, Bool.and_eq_true] at ha
            by_cases hb : b = 48
            · have hl : l = [48] := by
                rw [hb] at hc2
                simpa using hc2
              rw [hl] at hd ⊢
              have : dL [48] = [48] := rfl
              rw [this] at hd
              rw [← hd]
              have : val [48] = 0 := by decide
              rw [if_neg (by decide), this]
              show itoa 0 = [48]
              unfold itoa
              rw [if_neg (by omega), show Int.toNat 0 = 0 from rfl, dec_s (by omega)]; rfl
            · have hr := dec_val b ha.1 hb r.reverse (by rw [List.all_reverse]; exact ha.2)
              rw [List.reverse_reverse] at hr
              have hp := val_pos r b ha.1 hb
              unfold dL at hd
              cases hn : ngL l
              · rw [hn, if_neg (by decide)] at hd
                rw [if_neg (by decide), itoa, if_neg (by omega), Int.toNat_natCast, hr, hd]
              · rw [hn, if_pos rfl] at hd
                rw [if_pos rfl, itoa, if_pos (by omega), show (0 - (val (b :: r) : Int)).natAbs = val (b :: r) by omega, hr]
                unfold ngL at hn
                cases l with
                | nil => cases hn
                | cons c t =>
                  have : c = 45 := by simpa using hn
                  rw [this]
                  have : t = b :: r := hd
                  rw [this]
        · show -1000000000000 ≤ (if ngL l = true then 0 - (val (dL l) : Int) else (val (dL l) : Int))
          split <;> omega
        · show (if ngL l = true then 0 - (val (dL l) : Int) else (val (dL l) : Int)) ≤ 1000000000000
          split <;> omega
      · rw [if_neg hv]; left; exact ⟨by decide, rfl⟩
    · rw [if_neg ha]; left; exact ⟨by decide, rfl⟩
  · rw [cond_true]; left; exact ⟨by decide, rfl⟩
theorem itoa_len (n : Int) (h0 : -9223372036854775808 ≤ n) (h1 : n ≤ 9223372036854775807) : (itoa n).length ≤ 200 := by
  have hl : ∀ (e m : Nat), m < 10 ^ (e + 1) → (decDigits m).length ≤ e + 1 := fun e => by
    induction e with
    | zero => intro m h; rw [dec_s (by omega)]; simp
    | succ e ih =>
      intro m h
      by_cases hm : m < 10
      · rw [dec_s hm]; simp
      · have := ih (m / 10) (by rw [Nat.pow_succ] at h; omega)
        rw [dec_b hm, List.length_append, List.length_singleton]; omega
  unfold itoa
  split
  · have := hl 19 n.natAbs (by omega)
    rw [List.length_cons]; omega
  · have := hl 19 n.toNat (by omega)
    omega
end Go.AM
namespace Go.AM
open Go Go.Proofs
set_option linter.unusedVariables false
noncomputable section
abbrev R28 : Type := ByteArray
def res28 (r : R28) : AV := .r (.v (.string r))
def bo28 (r : R28) : List (Nat × Blk) := []
def f28 (k : Nat) (i_ : Int) : Option R28 := bif (decide (-9223372036854775808 ≤ i_) && decide (i_ ≤ 9223372036854775807)) then some (mkL (Lib.itoa i_)) else none
def args28 (i_ : Int) : List AV := [.r (.v (.int .i64 i_))]
def v28 (k : Nat) (i_ : Int) : R28 := (f28 k i_).getD ByteArray.empty
theorem of28 (k : Nat) (i_ : Int) (r : R28) (h : f28 k i_ = some r) : CC Tryd.prog 28 (args28 i_) [] (res28 r) (bo28 r) := by
  unfold f28 at h
  cases q : (decide (-9223372036854775808 ≤ i_) && decide (i_ ≤ 9223372036854775807)) <;> rw [q] at h
  · cases h
  · cases h
    simp only [Bool.and_eq_true, decide_eq_true_eq] at q
    refine cc_plain (xs := [.int .i64 i_]) ⟨Tryd.f28, _, Tryd.func28, rfl, by kernel_rfl⟩ fun w hG => ?_
    refine (Tryd.strconv_Itoa i_ q.1 q.2 w hG.2).mono fun e w' ⟨he, k, os, hw⟩ => ?_
    subst hw
    exact ⟨he, grow_grew w k os, fun B hB => grow_frame w k os B hB⟩
theorem cc28 (k : Nat) (i_ : Int) (h : (f28 k i_).isSome = true) : CC Tryd.prog 28 (args28 i_) [] (res28 (v28 k i_)) (bo28 (v28 k i_)) := by
  cases e : f28 k i_ with
  | none => rw [e] at h; cases h
  | some r => rw [show v28 k i_ = r by simp [v28, e]]; exact of28 k i_ r e

end
end Go.AM
namespace Go.AM
open Go Go.Proofs
set_option linter.unusedVariables false
noncomputable section
/-! ### function 11: papermill/papermilllaw07.FieldDigits -/
def K11 (k : Nat) : Calld := ⟨fun g => match g with
  | 22 => some [false]
  | 13 => some []
  | 28 => some [false]
  | _ => none, fun g xs _ => match g with
  | 22 => match xs with
    | [.r (.v (.string s_))] => some (res22 (v22 k s_), bo22 (v22 k s_))
    | _ => none
  | 13 => match xs with
    | [] => some (res13 (v13 k ), bo13 (v13 k ))
    | _ => none
  | 28 => match xs with
    | [.r (.v (.int .i64 i_))] => some (res28 (v28 k i_), bo28 (v28 k i_))
    | _ => none
  | _ => none⟩
abbrev R11 : Type := Bool
def res11 (r : R11) : AV := .r (.v (.bool r))
def bo11 (r : R11) : List (Nat × Blk) := []
def f11 (k : Nat) (n_ : Int) (s_ : ByteArray) : Option R11 :=
  bif (decide ((↑s_.size : Int) > (200 : Int))) then
    if ((f13 k ).isSome = true) then
      some (v13 k)
    else none
  else
    if ((f28 k n_).isSome = true) ∧ ((f22 k (v28 k n_)).isSome = true) then
      bif (decide (n_ ≥ (-1000000000000 : Int)) && decide (n_ ≤ (1000000000000 : Int)) && ((v22 k (v28 k n_)).snd != (0 : Int) || (v22 k (v28 k n_)).fst != n_) || (! (decide (n_ ≥ (-1000000000000 : Int)) && decide (n_ ≤ (1000000000000 : Int)))) && ((v22 k (v28 k n_)).snd != (1 : Int) || (v22 k (v28 k n_)).fst != (0 : Int))) then
        some false
      else
        if ((f22 k s_).isSome = true) then
          bif ((v22 k s_).snd != (0 : Int) && (v22 k s_).fst == (0 : Int)) then
            if (((v22 k s_).snd != (0 : Int) && (v22 k s_).fst == (0 : Int)) = true) ∧ (true = true) ∧ ((f13 k ).isSome = true) then
              some (true && v13 k)
            else none
          else
            bif ((v22 k s_).snd == (0 : Int)) then
              bif (false || true && ByteArray.toList (v28 k (v22 k s_).fst) == s_.toList) then
                if (((v22 k s_).snd != (0 : Int) && (v22 k s_).fst == (0 : Int)) = false) ∧ (((v22 k s_).snd == (0 : Int)) = true) ∧ ((f28 k (v22 k s_).fst).isSome = true) ∧ ((false || true && ByteArray.toList (v28 k (v22 k s_).fst) == s_.toList) = true) ∧ ((f13 k ).isSome = true) then
                  some (true && v13 k)
                else none
              else
                if (((v22 k s_).snd != (0 : Int) && (v22 k s_).fst == (0 : Int)) = false) ∧ (((v22 k s_).snd == (0 : Int)) = true) ∧ ((f28 k (v22 k s_).fst).isSome = true) ∧ ((false || true && ByteArray.toList (v28 k (v22 k s_).fst) == s_.toList) = false) then
                  some false
                else none
            else
              if (((v22 k s_).snd != (0 : Int) && (v22 k s_).fst == (0 : Int)) = false) ∧ (((v22 k s_).snd == (0 : Int)) = false) ∧ ((false || false) = false) then
                some false
              else none
        else none
    else none
def args11 (n_ : Int) (s_ : ByteArray) : List AV := [.r (.v (.int .i64 n_)), .r (.v (.string s_))]
def v11 (k : Nat) (n_ : Int) (s_ : ByteArray) : R11 := (f11 k n_ s_).getD false
theorem of11 (k : Nat) (n_ : Int) (s_ : ByteArray) (r : R11) (h : f11 k n_ s_ = some r) : CC Tryd.prog 11 (args11 n_ s_) [] (res11 r) (bo11 r) := by
  refine CC.of (fn := Tryd.f11) (by kernel_rfl) (by kernel_rfl) (by kernel_rfl) (by kernel_rfl) ?_
  unfold f11 at h
  refine Ev.tree hm (R := Rt) (K := (K11 k)) (l := []) (C := []) (E := [.auto [4] true]) (n := 1000) (T := .test ((decide ((↑s_.size : Int) > (200 : Int)))) (.need [CC Tryd.prog 13 (args13 ) [] (res13 (v13 k )) (bo13 (v13 k ))] (.leaf (res11 (v13 k)) (bo11 (v13 k)))) (.need [CC Tryd.prog 28 (args28 n_) [] (res28 (v28 k n_)) (bo28 (v28 k n_)), CC Tryd.prog 22 (args22 (v28 k n_)) [] (res22 (v22 k (v28 k n_))) (bo22 (v22 k (v28 k n_)))] (.test ((decide (n_ ≥ (-1000000000000 : Int)) && decide (n_ ≤ (1000000000000 : Int)) && ((v22 k (v28 k n_)).snd != (0 : Int) || (v22 k (v28 k n_)).fst != n_) || (! (decide (n_ ≥ (-1000000000000 : Int)) && decide (n_ ≤ (1000000000000 : Int)))) && ((v22 k (v28 k n_)).snd != (1 : Int) || (v22 k (v28 k n_)).fst != (0 : Int)))) (.leaf (res11 false) (bo11 false)) (.need [CC Tryd.prog 22 (args22 s_) [] (res22 (v22 k s_)) (bo22 (v22 k s_))] (.test (((v22 k s_).snd != (0 : Int) && (v22 k s_).fst == (0 : Int))) (.test (true) (.need [((v22 k s_).snd != (0 : Int) && (v22 k s_).fst == (0 : Int)) = true, true = true, CC Tryd.prog 13 (args13 ) [] (res13 (v13 k )) (bo13 (v13 k ))] (.leaf (res11 (true && v13 k)) (bo11 (true && v13 k)))) (.need [((v22 k s_).snd != (0 : Int) && (v22 k s_).fst == (0 : Int)) = true, true = false] (.leaf (res11 false) (bo11 false)))) (.test (((v22 k s_).snd == (0 : Int))) (.test ((false || true && ByteArray.toList (v28 k (v22 k s_).fst) == s_.toList)) (.need [((v22 k s_).snd != (0 : Int) && (v22 k s_).fst == (0 : Int)) = false, ((v22 k s_).snd == (0 : Int)) = true, CC Tryd.prog 28 (args28 (v22 k s_).fst) [] (res28 (v28 k (v22 k s_).fst)) (bo28 (v28 k (v22 k s_).fst)), (false || true && ByteArray.toList (v28 k (v22 k s_).fst) == s_.toList) = true, CC Tryd.prog 13 (args13 ) [] (res13 (v13 k )) (bo13 (v13 k ))] (.leaf (res11 (true && v13 k)) (bo11 (true && v13 k)))) (.need [((v22 k s_).snd != (0 : Int) && (v22 k s_).fst == (0 : Int)) = false, ((v22 k s_).snd == (0 : Int)) = true, CC Tryd.prog 28 (args28 (v22 k s_).fst) [] (res28 (v28 k (v22 k s_).fst)) (bo28 (v28 k (v22 k s_).fst)), (false || true && ByteArray.toList (v28 k (v22 k s_).fst) == s_.toList) = false] (.leaf (res11 false) (bo11 false)))) (.test (false) (.need [((v22 k s_).snd != (0 : Int) && (v22 k s_).fst == (0 : Int)) = false, ((v22 k s_).snd == (0 : Int)) = false, (false || false) = true, CC Tryd.prog 13 (args13 ) [] (res13 (v13 k )) (bo13 (v13 k ))] (.leaf (res11 (true && v13 k)) (bo11 (true && v13 k)))) (.need [((v22 k s_).snd != (0 : Int) && (v22 k s_).fst == (0 : Int)) = false, ((v22 k s_).snd == (0 : Int)) = false, (false || false) = false] (.leaf (res11 false) (bo11 false)))))))))) (by kernel_rfl) ?_
  refine ⟨fun c => ?_, fun c => ?_⟩
  · rw [cond_t c] at h
    by_cases q : ((f13 k ).isSome = true)
    · rw [if_pos q] at h
      refine ⟨(conjC (cc13 k  q) conj0), ?_⟩
      cases h; exact ⟨rfl, rfl⟩
    · rw [if_neg q] at h; cases h
  · rw [cond_f c] at h
    by_cases q : ((f28 k n_).isSome = true) ∧ ((f22 k (v28 k n_)).isSome = true)
    · rw [if_pos q] at h
      refine ⟨(conjC (cc28 k n_ q.1) (conjC (cc22 k (v28 k n_) q.2) conj0)), ?_⟩
      refine ⟨fun c => ?_, fun c => ?_⟩
      · rw [cond_t c] at h
        cases h; exact ⟨rfl, rfl⟩
      · rw [cond_f c] at h
        by_cases q : ((f22 k s_).isSome = true)
        · rw [if_pos q] at h
          refine ⟨(conjC (cc22 k s_ q) conj0), ?_⟩
          refine ⟨fun c => ?_, fun c => ?_⟩
          · rw [cond_t c] at h
            refine ⟨fun c => ?_, fun c => ?_⟩
            rotate_left
            · cases c
            by_cases q : (((v22 k s_).snd != (0 : Int) && (v22 k s_).fst == (0 : Int)) = true) ∧ (true = true) ∧ ((f13 k ).isSome = true)
            · rw [if_pos q] at h
              refine ⟨(conjC q.1 (conjC q.2.1 (conjC (cc13 k  q.2.2) conj0))), ?_⟩
              cases h; exact ⟨rfl, rfl⟩
            · rw [if_neg q] at h; cases h
          · rw [cond_f c] at h
            refine ⟨fun c => ?_, fun c => ?_⟩
            · rw [cond_t c] at h
              refine ⟨fun c => ?_, fun c => ?_⟩
              · rw [cond_t c] at h
                by_cases q : (((v22 k s_).snd != (0 : Int) && (v22 k s_).fst == (0 : Int)) = false) ∧ (((v22 k s_).snd == (0 : Int)) = true) ∧ ((f28 k (v22 k s_).fst).isSome = true) ∧ ((false || true && ByteArray.toList (v28 k (v22 k s_).fst) == s_.toList) = true) ∧ ((f13 k ).isSome = true)
                · rw [if_pos q] at h
                  refine ⟨(conjC q.1 (conjC q.2.1 (conjC (cc28 k (v22 k s_).fst q.2.2.1) (conjC q.2.2.2.1 (conjC (cc13 k  q.2.2.2.2) conj0))))), ?_⟩
                  cases h; exact ⟨rfl, rfl⟩
                · rw [if_neg q] at h; cases h
              · rw [cond_f c] at h
                by_cases q : (((v22 k s_).snd != (0 : Int) && (v22 k s_).fst == (0 : Int)) = false) ∧ (((v22 k s_).snd == (0 : Int)) = true) ∧ ((f28 k (v22 k s_).fst).isSome = true) ∧ ((false || true && ByteArray.toList (v28 k (v22 k s_).fst) == s_.toList) = false)
                · rw [if_pos q] at h
                  refine ⟨(conjC q.1 (conjC q.2.1 (conjC (cc28 k (v22 k s_).fst q.2.2.1) (conjC q.2.2.2 conj0)))), ?_⟩
                  cases h; exact ⟨rfl, rfl⟩
                · rw [if_neg q] at h; cases h
            · rw [cond_f c] at h
              refine ⟨fun c => ?_, fun c => ?_⟩
              · cases c
              by_cases q : (((v22 k s_).snd != (0 : Int) && (v22 k s_).fst == (0 : Int)) = false) ∧ (((v22 k s_).snd == (0 : Int)) = false) ∧ ((false || false) = false)
              · rw [if_pos q] at h
                refine ⟨(conjC q.1 (conjC q.2.1 (conjC q.2.2 conj0))), ?_⟩
                cases h; exact ⟨rfl, rfl⟩
              · rw [if_neg q] at h; cases h
        · rw [if_neg q] at h; cases h
    · rw [if_neg q] at h; cases h
theorem cc11 (k : Nat) (n_ : Int) (s_ : ByteArray) (h : (f11 k n_ s_).isSome = true) : CC Tryd.prog 11 (args11 n_ s_) [] (res11 (v11 k n_ s_)) (bo11 (v11 k n_ s_)) := by
  cases e : f11 k n_ s_ with
  | none => rw [e] at h; cases h
  | some r => rw [show v11 k n_ s_ = r by simp [v11, e]]; exact of11 k n_ s_ r e

end
end Go.AM
namespace Go.AM
open Go Go.Proofs Go.Lib
theorem v13_t : v13 KK = true := by unfold v13; rw [f13_t]; rfl
theorem f11_n (n : Int) (s : ByteArray) (h0 : -9223372036854775808 ≤ n) (h1 : n ≤ 9223372036854775807) : f11 KK n s = some true := by
  unfold f11
  by_cases hs : s.size ≤ 200
  · rw [decide_eq_false (by omega : ¬ (s.size : Int) > 200), cond_false]
    have e28 : ∀ m : Int, -9223372036854775808 ≤ m → m ≤ 9223372036854775807 → f28 KK m = some (mkL (itoa m)) := fun m a b => by
      unfold f28; rw [decide_eq_true a, decide_eq_true b]; rfl
    have g28 : ∀ m : Int, -9223372036854775808 ≤ m → m ≤ 9223372036854775807 → v28 KK m = mkL (itoa m) := fun m a b => by
      unfold v28; rw [e28 m a b]; rfl
    have hkk : 300 ≤ KK := by unfold KK; omega
    have hl : (mkL (itoa n)).size ≤ 200 := itoa_len n h0 h1
    rw [e28 n h0 h1, g28 n h0 h1]
    have g22 : ∀ t : ByteArray, t.size ≤ 200 → v22 KK t = top t := fun t h => by unfold v22; rw [f22_top KK hkk t h]; rfl
    rw [f22_top KK hkk _ hl, f22_top KK hkk s hs, g22 _ hl, g22 s hs, if_pos ⟨rfl, rfl⟩, f13_t, v13_t]
    have ht : top (mkL (itoa n)) = if -1000000000000 ≤ n ∧ n ≤ 1000000000000 then (n, 0) else (0, 1) := by
      rw [top_L]; exact topL_itoa n
    have hb := topL_back s.data.toList
    rw [← top_L] at hb
    rw [ht]
    have first : (decide (n ≥ (-1000000000000 : Int)) && decide (n ≤ (1000000000000 : Int)) && ((if -1000000000000 ≤ n ∧ n ≤ 1000000000000 then (n, (0 : Int)) else (0, 1)).snd != (0 : Int) || (if -1000000000000 ≤ n ∧ n ≤ 1000000000000 then (n, (0 : Int)) else (0, 1)).fst != n) || (! (decide (n ≥ (-1000000000000 : Int)) && decide (n ≤ (1000000000000 : Int)))) && ((if -1000000000000 ≤ n ∧ n ≤ 1000000000000 then (n, (0 : Int)) else (0, 1)).snd != (1 : Int) || (if -1000000000000 ≤ n ∧ n ≤ 1000000000000 then (n, (0 : Int)) else (0, 1)).fst != (0 : Int))) = false := by
      by_cases h : -1000000000000 ≤ n ∧ n ≤ 1000000000000
      · rw [if_pos h, decide_eq_true (show n ≥ -1000000000000 from h.1), decide_eq_true h.2]; simp
      · rw [if_neg h]
        have : (decide (n ≥ -1000000000000) && decide (n ≤ 1000000000000)) = false := by
          rw [Bool.and_eq_false_iff]
          by_cases h2 : n ≥ -1000000000000
          · right; exact decide_eq_false (fun h3 => h ⟨h2, h3⟩)
          · left; exact decide_eq_false h2
        rw [this]; rfl
    rw [first, cond_false, if_some]
    rcases hb with ⟨hb1, hb2⟩ | ⟨hb1, hb2, hb3, hb4⟩
    · have e1 : ((top s).snd != 0) = true := by simpa using hb1
      have e2 : ((top s).fst == 0) = true := by simpa using hb2
      rw [e1, e2]; rfl
    · have e1 : ((top s).snd != 0) = false := by simpa using hb1
      have e3 : ((top s).snd == 0) = true := by simpa using hb1
      have b0 : -9223372036854775808 ≤ (top s).fst := by rw [top_L] at hb3 ⊢; omega
      have b1 : (top s).fst ≤ 9223372036854775807 := by rw [top_L] at hb4 ⊢; omega
      have e4 : (ByteArray.toList (mkL (itoa (top s).fst)) == s.toList) = true := by
        rw [tl_data, tl_data, hb2]; simp [mkL]
      rw [e28 _ b0 b1, g28 _ b0 b1, e1, e3, e4]; rfl
  · rw [decide_eq_true (by omega : (s.size : Int) > 200), cond_true, f13_t, v13_t]
    rfl
end Go.AM
