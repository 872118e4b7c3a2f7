/- Contracts of the functions that the law reaches, and the plain law. -/
import Derived.Test.YtlakpahbdecdpaaGreatDoorLibb
import Derived.Test.YtlakpahbdecdpaaGreatDoorProg
set_option linter.unusedVariables false
set_option linter.unusedSimpArgs false
set_option linter.unusedSectionVars false
namespace Go.AM
open Go

/-! ### sets of integers as lists of spans -/
abbrev Sp := Int × Int

/-- x is in one of the spans -/
def has : List Sp → Int → Prop
  | [], _ => False
  | s :: t, x => (s.1 ≤ x ∧ x < s.2) ∨ has t x

/-- spans within bounds -/
def In (a b : Int) : List Sp → Prop
  | [] => True
  | s :: t => (a ≤ s.1 ∧ s.1 ≤ s.2 ∧ s.2 ≤ b) ∧ In a b t
theorem In.mem {a b : Int} : ∀ {l : List Sp}, In a b l → ∀ s ∈ l, a ≤ s.1 ∧ s.1 ≤ s.2 ∧ s.2 ≤ b
  | [], _, s, hs => by simp at hs
  | u :: t, ⟨h1, h2⟩, s, hs => by
    rcases List.mem_cons.1 hs with rfl | hs
    · exact h1
    · exact In.mem h2 s hs
theorem In.of {a b : Int} : ∀ {l : List Sp}, (∀ s ∈ l, a ≤ s.1 ∧ s.1 ≤ s.2 ∧ s.2 ≤ b) → In a b l
  | [], _ => trivial
  | u :: t, h => ⟨h u (by simp), In.of fun s hs => h s (by simp [hs])⟩
end Go.AM
namespace Go.AM
open Go

/-! ### stretches and cuts of sections, in plain Lean (From, To, Kind, Grade, Phase) -/
abbrev Sct := Int × Int × Int × Int × Int
def strGo : Option (Int × Int × Int) → List Sct → List (Int × Int)
  | none, [] => []
  | some c, [] => [(c.1, c.2.1)]
  | none, x :: t => bif x.2.2.1 == 3 then strGo none t else strGo (some (x.1, x.2.1, x.2.2.2.2)) t
  | some c, x :: t => bif x.2.2.1 == 3 then (c.1, c.2.1) :: strGo none t else
      bif x.2.2.2.2 == c.2.2 then strGo (some (c.1, x.2.1, c.2.2)) t else (c.1, c.2.1) :: strGo (some (x.1, x.2.1, x.2.2.2.2)) t
/-- at a place where a stretch ends -/
theorem strGo_end (c : Int × Int × Int) (l : List Sct) (h : ∀ x t, l = x :: t → ¬ (x.2.2.1 ≠ 3 ∧ x.2.2.2.2 = c.2.2)) : strGo (some c) l = (c.1, c.2.1) :: strGo none l := by
  cases l with
  | nil => rfl
  | cons x t =>
    have := h x t rfl
    simp only [strGo]
    cases e : (x.2.2.1 == 3)
    · have h1 : x.2.2.1 ≠ 3 := by simpa using e
      have h2 : (x.2.2.2.2 == c.2.2) = false := by simp; exact fun h3 => this ⟨h1, h3⟩
      rw [h2]; rfl
    · rfl
theorem strGo_on (c : Int × Int × Int) (x : Sct) (t : List Sct) (h1 : x.2.2.1 ≠ 3) (h2 : x.2.2.2.2 = c.2.2) : strGo (some c) (x :: t) = strGo (some (c.1, x.2.1, c.2.2)) t := by
  simp only [strGo]
  rw [show (x.2.2.1 == 3) = false by simpa using h1, show (x.2.2.2.2 == c.2.2) = true by simpa using h2]; rfl
theorem strGo_none (x : Sct) (t : List Sct) (h1 : x.2.2.1 ≠ 3) : strGo none (x :: t) = strGo (some (x.1, x.2.1, x.2.2.2.2)) t := by
  simp only [strGo]
  rw [show (x.2.2.1 == 3) = false by simpa using h1]; rfl
theorem strGo_lost (x : Sct) (t : List Sct) (h1 : x.2.2.1 = 3) : strGo none (x :: t) = strGo none t := by
  simp only [strGo]
  rw [show (x.2.2.1 == 3) = true by simpa using h1]; rfl
/-- a stretch lies between ends of sections -/
theorem strGo_in (P : Int → Prop) : ∀ (l : List Sct) (c : Option (Int × Int × Int)), (∀ x ∈ l, P x.1 ∧ P x.2.1) → (∀ a, c = some a → P a.1 ∧ P a.2.1) → ∀ s ∈ strGo c l, P s.1 ∧ P s.2
  | [], none, _, _, s, hs => by simp [strGo] at hs
  | [], some c, _, hc, s, hs => by
    simp only [strGo, List.mem_singleton] at hs
    subst hs; exact hc c rfl
  | x :: t, none, hl, hc, s, hs => by
    simp only [strGo] at hs
    cases e : (x.2.2.1 == 3)
    · rw [e] at hs
      exact strGo_in P t _ (fun y hy => hl y (by simp [hy])) (fun a ha => by cases ha; exact hl x (by simp)) s hs
    · rw [e] at hs
      exact strGo_in P t none (fun y hy => hl y (by simp [hy])) (fun a ha => by cases ha) s hs
  | x :: t, some c, hl, hc, s, hs => by
    simp only [strGo] at hs
    cases e : (x.2.2.1 == 3)
    · rw [e] at hs
      cases e2 : (x.2.2.2.2 == c.2.2)
      · rw [e2] at hs
        rcases List.mem_cons.1 hs with h | h
        · rw [h]; exact hc c rfl
        · exact strGo_in P t _ (fun y hy => hl y (by simp [hy])) (fun a ha => by cases ha; exact hl x (by simp)) s h
      · rw [e2] at hs
        exact strGo_in P t _ (fun y hy => hl y (by simp [hy])) (fun a ha => by cases ha; exact ⟨(hc c rfl).1, (hl x (by simp)).2⟩) s hs
    · rw [e] at hs
      rcases List.mem_cons.1 hs with h | h
      · rw [h]; exact hc c rfl
      · exact strGo_in P t none (fun y hy => hl y (by simp [hy])) (fun a ha => by cases ha) s h
theorem strGo_len : ∀ (l : List Sct) (c : Option (Int × Int × Int)), (strGo c l).length ≤ l.length + 1
  | [], none => by simp [strGo]
  | [], some c => by simp [strGo]
  | x :: t, none => by
    simp only [strGo]
    cases (x.2.2.1 == 3)
    · have := strGo_len t (some (x.1, x.2.1, x.2.2.2.2)); simpa using (by omega)
    · have := strGo_len t none; simpa using (by omega)
  | x :: t, some c => by
    simp only [strGo]
    cases (x.2.2.1 == 3)
    · cases (x.2.2.2.2 == c.2.2)
      · have := strGo_len t (some (x.1, x.2.1, x.2.2.2.2)); simpa using (by omega)
      · have := strGo_len t (some (c.1, x.2.1, c.2.2)); simpa using (by omega)
    · have := strGo_len t none; simpa using (by omega)
/-- a piece: where the next one begins, the reels, the pieces that are too short -/
abbrev Pcs := Int × List (Int × Int) × List (Int × Int)
def pcS (least : Int) (p : Pcs) (e : Int) : Pcs := bif decide (e - p.1 ≥ least) then (e, p.2.1 ++ [(p.1, e)], p.2.2) else (e, p.2.1, p.2.2 ++ [(p.1, e)])
def pcsS (least : Int) (p : Pcs) (l : List Int) : Pcs := l.foldl (pcS least) p
def endsS (turns : List Int) (s : Int × Int) : List Int := turns.filter (fun x => decide (x > s.1) && decide (x < s.2)) ++ [s.2]
def cut1S (turns : List Int) (least : Int) (q : List (Int × Int) × List (Int × Int)) (s : Int × Int) : List (Int × Int) × List (Int × Int) :=
  ((pcsS least (s.1, q.1, q.2) (endsS turns s)).2.1, (pcsS least (s.1, q.1, q.2) (endsS turns s)).2.2)
def cutsS (turns : List Int) (least : Int) (q : List (Int × Int) × List (Int × Int)) (l : List (Int × Int)) : List (Int × Int) × List (Int × Int) := l.foldl (cut1S turns least) q
theorem pcS_len (least : Int) (p : Pcs) (e : Int) : (pcS least p e).2.1.length + (pcS least p e).2.2.length = p.2.1.length + p.2.2.length + 1 := by
  unfold pcS
  cases decide (e - p.1 ≥ least) <;> simp <;> omega
theorem pcsS_len (least : Int) : ∀ (l : List Int) (p : Pcs), (pcsS least p l).2.1.length + (pcsS least p l).2.2.length = p.2.1.length + p.2.2.length + l.length
  | [], p => rfl
  | e :: t, p => by
    have h := pcS_len least p e
    have := pcsS_len least t (pcS least p e)
    show (pcsS least (pcS least p e) t).2.1.length + (pcsS least (pcS least p e) t).2.2.length = _
    rw [this, h, List.length_cons]; omega
theorem endsS_len (turns : List Int) (s : Int × Int) : (endsS turns s).length ≤ turns.length + 1 := by
  unfold endsS
  rw [List.length_append]
  have := List.length_filter_le (fun x => decide (x > s.1) && decide (x < s.2)) turns
  simpa using this
theorem cut1S_len (turns : List Int) (least : Int) (q : List (Int × Int) × List (Int × Int)) (s : Int × Int) : (cut1S turns least q s).1.length + (cut1S turns least q s).2.length ≤ q.1.length + q.2.length + turns.length + 1 := by
  unfold cut1S
  have h := pcsS_len least (endsS turns s) (s.1, q.1, q.2)
  have := endsS_len turns s
  simp only at h ⊢
  omega
theorem cutsS_len (turns : List Int) (least : Int) : ∀ (l : List (Int × Int)) (q : List (Int × Int) × List (Int × Int)), (cutsS turns least q l).1.length + (cutsS turns least q l).2.length ≤ q.1.length + q.2.length + l.length * (turns.length + 1)
  | [], q => by simp [cutsS]
  | s :: t, q => by
    have h := cut1S_len turns least q s
    have := cutsS_len turns least t (cut1S turns least q s)
    show (cutsS turns least (cut1S turns least q s) t).1.length + (cutsS turns least (cut1S turns least q s) t).2.length ≤ _
    rw [List.length_cons, Nat.add_mul, Nat.one_mul]
    omega
end Go.AM
namespace Go.AM
open Go Go.Proofs
noncomputable section
abbrev I : RTy := .int .i64
abbrev t7 : RTy := (RTy.pair I (RTy.pair I (RTy.pair RTy.bool (RTy.int .u8))))
abbrev t8 : RTy := (RTy.pair I (RTy.pair I (RTy.pair RTy.bool (RTy.int .u8))))
abbrev t13 : RTy := (RTy.pair RTy.str (RTy.int .u64))
abbrev t14 : RTy := (RTy.pair RTy.str (RTy.int .u64))
abbrev T0 : RTy := (RTy.pair RTy.str (RTy.pair I (RTy.pair I (RTy.pair I (RTy.pair I (RTy.pair I (RTy.pair (RTy.list I) I)))))))
abbrev T1 : RTy := (RTy.pair I (RTy.list I))
abbrev T2 : RTy := (RTy.pair I (RTy.pair I (RTy.pair I (RTy.pair I I))))
abbrev T3 : RTy := (RTy.pair I (RTy.pair I RTy.bool))
abbrev T4 : RTy := (RTy.pair I (RTy.pair I (RTy.pair RTy.bool (RTy.list T3))))
abbrev T5 : RTy := (RTy.pair I (RTy.pair I T4))
abbrev T6 : RTy := (RTy.pair I (RTy.pair I (RTy.pair I I)))
abbrev T7 : RTy := (RTy.pair T6 (RTy.pair I I))
abbrev T8 : RTy := (RTy.pair I (RTy.pair I (RTy.pair I (RTy.pair I (RTy.pair I (RTy.pair I (RTy.pair I (RTy.pair I (RTy.pair I (RTy.pair I (RTy.pair I I)))))))))))
abbrev T9 : RTy := (RTy.pair T8 (RTy.pair (RTy.list I) (RTy.pair (RTy.list I) RTy.bool)))
abbrev T10 : RTy := (RTy.pair I (RTy.pair I I))
abbrev T11 : RTy := (RTy.pair I (RTy.pair I (RTy.list I)))
abbrev T12 : RTy := (RTy.pair I (RTy.pair I (RTy.pair I (RTy.pair I (RTy.pair I I)))))
abbrev T13 : RTy := (RTy.pair I (RTy.pair I (RTy.pair I I)))
abbrev T14 : RTy := (RTy.pair I (RTy.pair I (RTy.pair I I)))
abbrev T15 : RTy := (RTy.pair I I)
abbrev T16 : RTy := (RTy.pair I (RTy.pair I (RTy.list T15)))
abbrev t35 : RTy := (RTy.pair I (RTy.pair I (RTy.pair I (RTy.pair I (RTy.pair I (RTy.pair I (RTy.pair I (RTy.pair (RTy.list T0) (RTy.pair (RTy.list T1) (RTy.pair (RTy.list T2) (RTy.pair (RTy.list I) (RTy.pair (RTy.list T5) (RTy.pair (RTy.list I) (RTy.pair (RTy.list I) (RTy.pair (RTy.list T7) (RTy.pair (RTy.list T9) (RTy.pair (RTy.list T10) (RTy.pair (RTy.list T11) (RTy.pair (RTy.list T12) (RTy.pair (RTy.list T13) (RTy.pair (RTy.list T14) (RTy.list T16))))))))))))))))))))))
abbrev T17 : RTy := (RTy.pair I (RTy.pair I (RTy.pair I (RTy.pair I (RTy.pair I (RTy.pair I (RTy.pair I (RTy.pair (RTy.list T0) (RTy.pair (RTy.list T1) (RTy.pair (RTy.list T2) (RTy.pair (RTy.list I) (RTy.pair (RTy.list T5) (RTy.pair (RTy.list I) (RTy.pair (RTy.list I) (RTy.pair (RTy.list T7) (RTy.pair (RTy.list T9) (RTy.pair (RTy.list T10) (RTy.pair (RTy.list T11) (RTy.pair (RTy.list T12) (RTy.pair (RTy.list T13) (RTy.pair (RTy.list T14) (RTy.list T16))))))))))))))))))))))
abbrev t41 : RTy := (RTy.pair I (RTy.pair I (RTy.pair I I)))
abbrev t44 : RTy := (RTy.pair I (RTy.pair I (RTy.pair RTy.bool (RTy.list T3))))
abbrev t46 : RTy := (RTy.pair I (RTy.pair I T4))
abbrev t48 : RTy := (RTy.pair I (RTy.pair I RTy.bool))
abbrev T18 : RTy := (RTy.pair I (RTy.pair I I))
abbrev t53 : RTy := (RTy.pair I (RTy.pair I I))
abbrev t60 : RTy := (RTy.pair I (RTy.pair I (RTy.pair I (RTy.pair I (RTy.pair I I)))))
abbrev t62 : RTy := (RTy.pair I (RTy.pair I (RTy.pair I I)))
abbrev t66 : RTy := (RTy.pair I I)
abbrev T19 : RTy := (RTy.pair I I)
abbrev t68 : RTy := (RTy.pair I (RTy.pair I I))
abbrev T20 : RTy := (RTy.pair I (RTy.pair I I))
abbrev t71 : RTy := (RTy.pair I (RTy.pair I (RTy.pair I (RTy.pair I (RTy.pair I (RTy.pair I (RTy.pair I (RTy.pair I (RTy.pair I (RTy.pair I (RTy.pair I I)))))))))))
abbrev t73 : RTy := (RTy.pair T8 (RTy.pair (RTy.list I) (RTy.pair (RTy.list I) RTy.bool)))
abbrev t75 : RTy := (RTy.pair I (RTy.pair I (RTy.list I)))
abbrev t86 : RTy := (RTy.pair I (RTy.pair I (RTy.pair I (RTy.pair I I))))
abbrev t90 : RTy := (RTy.pair I I)
abbrev T21 : RTy := (RTy.pair I I)
abbrev t102 : RTy := (RTy.pair I (RTy.pair RTy.bool (RTy.pair I (RTy.pair I (RTy.pair I I)))))
abbrev T22 : RTy := (RTy.pair I (RTy.pair RTy.bool (RTy.pair I (RTy.pair I (RTy.pair I I)))))
abbrev T23 : RTy := (RTy.pair I I)
abbrev t107 : RTy := (RTy.pair (RTy.list T5) (RTy.pair T23 (RTy.pair (RTy.list T2) (RTy.pair (RTy.list T7) (RTy.pair (RTy.list T0) I)))))
abbrev T24 : RTy := (RTy.pair (RTy.list T5) (RTy.pair T23 (RTy.pair (RTy.list T2) (RTy.pair (RTy.list T7) (RTy.pair (RTy.list T0) I)))))
abbrev t116 : RTy := (RTy.pair I (RTy.pair I (RTy.list T15)))
abbrev t119 : RTy := (RTy.pair I I)
abbrev t124 : RTy := (RTy.pair I (RTy.pair I (RTy.pair I I)))
abbrev t126 : RTy := (RTy.pair T6 (RTy.pair I I))
abbrev t129 : RTy := RTy.fn
abbrev T25 : RTy := RTy.fn
abbrev t139 : RTy := (RTy.pair T17 (RTy.list T18))
abbrev T26 : RTy := (RTy.pair T17 (RTy.list T18))
abbrev t162 : RTy := (RTy.pair RTy.str (RTy.pair I (RTy.pair I (RTy.pair I (RTy.pair I (RTy.pair I (RTy.pair (RTy.list I) I)))))))
abbrev t172 : RTy := (RTy.pair I (RTy.pair I (RTy.pair I (RTy.pair I (RTy.pair I I)))))
abbrev T27 : RTy := (RTy.pair I (RTy.pair I (RTy.pair I (RTy.pair I (RTy.pair I I)))))
abbrev t200 : RTy := (RTy.pair (RTy.list T5) (RTy.pair T19 (RTy.pair (RTy.list T2) (RTy.pair (RTy.list T7) (RTy.pair (RTy.list T0) I)))))
abbrev T28 : RTy := (RTy.pair (RTy.list T5) (RTy.pair T19 (RTy.pair (RTy.list T2) (RTy.pair (RTy.list T7) (RTy.pair (RTy.list T0) I)))))
abbrev t209 : RTy := (RTy.pair I (RTy.pair I I))
abbrev T29 : RTy := (RTy.pair I (RTy.pair I (RTy.pair I (RTy.pair I (RTy.pair I I)))))
abbrev t256 : RTy := (RTy.pair (RTy.int .u64) (RTy.int .u64))
abbrev T30 : RTy := (RTy.pair (RTy.int .u64) (RTy.int .u64))
abbrev t261 : RTy := (RTy.pair (RTy.int .u8) (RTy.pair (RTy.int .u8) (RTy.pair (RTy.int .u8) (RTy.pair (RTy.int .u8) (RTy.pair (RTy.int .u8) (RTy.pair (RTy.int .u8) (RTy.pair (RTy.int .u8) (RTy.pair (RTy.int .u8) (RTy.pair (RTy.int .u8) (RTy.pair (RTy.int .u8) (RTy.pair (RTy.int .u8) (RTy.pair (RTy.int .u8) (RTy.pair (RTy.int .u8) (RTy.pair (RTy.int .u8) (RTy.pair (RTy.int .u8) (RTy.pair (RTy.int .u8) (RTy.pair (RTy.int .u8) (RTy.pair (RTy.int .u8) (RTy.pair (RTy.int .u8) (RTy.pair (RTy.int .u8) (RTy.pair (RTy.int .u8) (RTy.pair (RTy.int .u8) (RTy.pair (RTy.int .u8) (RTy.int .u8))))))))))))))))))))))))
abbrev t283 : RTy := (RTy.pair (RTy.int .u64) (RTy.pair (RTy.int .u64) (RTy.pair (RTy.int .u64) (RTy.pair (RTy.int .u64) (RTy.pair (RTy.int .u64) (RTy.pair (RTy.int .u64) (RTy.pair (RTy.int .u64) (RTy.pair (RTy.int .u64) (RTy.pair (RTy.int .u64) (RTy.pair (RTy.int .u64) (RTy.pair (RTy.int .u64) (RTy.pair (RTy.int .u64) (RTy.pair (RTy.int .u64) (RTy.pair (RTy.int .u64) (RTy.pair (RTy.int .u64) (RTy.pair (RTy.int .u64) (RTy.pair (RTy.int .u64) (RTy.pair (RTy.int .u64) (RTy.pair (RTy.int .u64) (RTy.int .u64))))))))))))))))))))
abbrev t286 : RTy := (RTy.list T3)
abbrev T31 : RTy := (RTy.list T3)
abbrev t302 : RTy := (RTy.pair T22 T8)
abbrev T32 : RTy := (RTy.pair T22 T8)
abbrev t320 : RTy := (RTy.pair (RTy.int .u8) (RTy.pair (RTy.int .u8) (RTy.pair (RTy.int .u8) (RTy.pair (RTy.int .u8) (RTy.pair (RTy.int .u8) (RTy.pair (RTy.int .u8) (RTy.pair (RTy.int .u8) (RTy.pair (RTy.int .u8) (RTy.pair (RTy.int .u8) (RTy.pair (RTy.int .u8) (RTy.pair (RTy.int .u8) (RTy.pair (RTy.int .u8) (RTy.pair (RTy.int .u8) (RTy.pair (RTy.int .u8) (RTy.pair (RTy.int .u8) (RTy.pair (RTy.int .u8) (RTy.pair (RTy.int .u8) (RTy.pair (RTy.int .u8) (RTy.pair (RTy.int .u8) (RTy.pair (RTy.int .u8) (RTy.pair (RTy.int .u8) (RTy.pair (RTy.int .u8) (RTy.pair (RTy.int .u8) (RTy.pair (RTy.int .u8) (RTy.pair (RTy.int .u8) (RTy.pair (RTy.int .u8) (RTy.pair (RTy.int .u8) (RTy.pair (RTy.int .u8) (RTy.pair (RTy.int .u8) (RTy.pair (RTy.int .u8) (RTy.pair (RTy.int .u8) (RTy.int .u8))))))))))))))))))))))))))))))))
abbrev t321 : RTy := (RTy.pair (RTy.int .u8) (RTy.pair (RTy.int .u8) (RTy.pair (RTy.int .u8) (RTy.pair (RTy.int .u8) (RTy.pair (RTy.int .u8) (RTy.pair (RTy.int .u8) (RTy.pair (RTy.int .u8) (RTy.pair (RTy.int .u8) (RTy.pair (RTy.int .u8) (RTy.pair (RTy.int .u8) (RTy.pair (RTy.int .u8) (RTy.pair (RTy.int .u8) (RTy.pair (RTy.int .u8) (RTy.pair (RTy.int .u8) (RTy.pair (RTy.int .u8) (RTy.pair (RTy.int .u8) (RTy.pair (RTy.int .u8) (RTy.pair (RTy.int .u8) (RTy.pair (RTy.int .u8) (RTy.pair (RTy.int .u8) (RTy.pair (RTy.int .u8) (RTy.pair (RTy.int .u8) (RTy.pair (RTy.int .u8) (RTy.pair (RTy.int .u8) (RTy.pair (RTy.int .u8) (RTy.pair (RTy.int .u8) (RTy.pair (RTy.int .u8) (RTy.pair (RTy.int .u8) (RTy.pair (RTy.int .u8) (RTy.pair (RTy.int .u8) (RTy.pair (RTy.int .u8) (RTy.pair (RTy.int .u8) (RTy.pair (RTy.int .u8) (RTy.pair (RTy.int .u8) (RTy.pair (RTy.int .u8) (RTy.pair (RTy.int .u8) (RTy.pair (RTy.int .u8) (RTy.pair (RTy.int .u8) (RTy.pair (RTy.int .u8) (RTy.pair (RTy.int .u8) (RTy.pair (RTy.int .u8) (RTy.pair (RTy.int .u8) (RTy.pair (RTy.int .u8) (RTy.pair (RTy.int .u8) (RTy.pair (RTy.int .u8) (RTy.pair (RTy.int .u8) (RTy.pair (RTy.int .u8) (RTy.pair (RTy.int .u8) (RTy.pair (RTy.int .u8) (RTy.pair (RTy.int .u8) (RTy.pair (RTy.int .u8) (RTy.pair (RTy.int .u8) (RTy.pair (RTy.int .u8) (RTy.pair (RTy.int .u8) (RTy.pair (RTy.int .u8) (RTy.pair (RTy.int .u8) (RTy.pair (RTy.int .u8) (RTy.pair (RTy.int .u8) (RTy.pair (RTy.int .u8) (RTy.pair (RTy.int .u8) (RTy.pair (RTy.int .u8) (RTy.pair (RTy.int .u8) (RTy.pair (RTy.int .u8) (RTy.int .u8))))))))))))))))))))))))))))))))))))))))))))))))))))))))))))))))
abbrev t335 : RTy := RTy.unit
abbrev t336 : RTy := RTy.unit
abbrev t346 : RTy := (RTy.pair I (RTy.list I))
instance : GT Tryz.prog := ⟨fun _ => True, fun _ _ _ h => h⟩
def Rt : Tab := lookT [(1, RTy.fn), (2, I), (3, I), (4, RTy.bool), (5, (RTy.int .u8)), (6, (RTy.int .u8)), (7, t7), (8, t8), (9, RTy.str), (10, RTy.str), (11, RTy.str), (12, (RTy.int .u64)), (13, t13), (14, t14), (21, (RTy.int .i32)), (22, (RTy.list T0)), (23, (RTy.list T1)), (24, (RTy.list T2)), (25, (RTy.list I)), (26, (RTy.list T5)), (27, (RTy.list T7)), (28, (RTy.list T9)), (29, (RTy.list T10)), (30, (RTy.list T11)), (31, (RTy.list T12)), (32, (RTy.list T13)), (33, (RTy.list T14)), (34, (RTy.list T16)), (35, t35), (36, T17), (37, RTy.fn), (38, I), (39, RTy.fn), (40, RTy.fn), (41, t41), (42, T14), (43, (RTy.list T3)), (44, t44), (45, T4), (46, t46), (47, T5), (48, t48), (49, T3), (50, (RTy.list T18)), (52, RTy.fn), (53, t53), (54, T18), (55, RTy.fn), (57, RTy.fn), (58, RTy.fn), (59, RTy.fn), (60, t60), (61, T12), (62, t62), (63, T13), (65, RTy.fn), (66, t66), (67, T19), (68, t68), (69, T20), (70, RTy.fn), (71, t71), (72, T8), (73, t73), (74, T9), (75, t75), (76, T11), (79, RTy.fn), (80, RTy.fn), (81, RTy.fn), (83, (RTy.list RTy.fn)), (84, RTy.fn), (85, RTy.fn), (86, t86), (87, T2), (89, RTy.fn), (90, t90), (91, T21), (92, (RTy.list T21)), (94, RTy.fn), (95, RTy.fn), (96, RTy.fn), (97, RTy.fn), (98, RTy.fn), (99, RTy.fn), (100, RTy.fn), (101, RTy.fn), (102, t102), (103, T22), (105, RTy.fn), (106, T23), (107, t107), (108, T24), (109, RTy.fn), (110, RTy.fn), (111, RTy.fn), (113, RTy.fn), (114, RTy.fn), (115, (RTy.list T15)), (116, t116), (117, T16), (118, RTy.fn), (119, t119), (120, T15), (121, RTy.fn), (123, RTy.fn), (124, t124), (125, T6), (126, t126), (127, T7), (128, RTy.fn), (129, t129), (130, T25), (131, RTy.fn), (132, RTy.fn), (136, RTy.fn), (137, RTy.fn), (138, RTy.fn), (139, t139), (140, T26), (141, RTy.fn), (142, RTy.fn), (144, RTy.fn), (145, (RTy.list T4)), (146, RTy.fn), (147, RTy.fn), (148, RTy.fn), (149, RTy.fn), (150, RTy.fn), (151, RTy.fn), (152, RTy.fn), (153, RTy.fn), (154, RTy.fn), (156, RTy.fn), (158, RTy.fn), (160, RTy.fn), (161, RTy.fn), (162, t162), (163, T0), (164, RTy.fn), (165, RTy.fn), (167, RTy.fn), (168, RTy.fn), (169, RTy.fn), (171, RTy.fn), (172, t172), (173, T27), (174, RTy.fn), (175, RTy.fn), (176, RTy.fn), (177, RTy.fn), (178, (RTy.list (RTy.int .u8))), (179, RTy.fn), (180, RTy.fn), (182, RTy.fn), (183, RTy.fn), (184, RTy.fn), (185, RTy.fn), (186, RTy.fn), (187, RTy.fn), (188, RTy.fn), (189, RTy.fn), (191, RTy.fn), (192, RTy.fn), (193, RTy.fn), (194, RTy.fn), (195, RTy.fn), (196, RTy.fn), (198, RTy.fn), (199, RTy.fn), (200, t200), (201, T28), (202, RTy.fn), (204, RTy.fn), (205, RTy.fn), (206, RTy.fn), (207, RTy.fn), (208, RTy.fn), (209, t209), (210, T10), (212, RTy.fn), (213, RTy.fn), (214, RTy.fn), (215, T29), (216, RTy.fn), (218, RTy.fn), (219, RTy.fn), (220, (RTy.list (RTy.list T21))), (221, RTy.fn), (222, RTy.fn), (223, RTy.fn), (224, RTy.fn), (225, RTy.fn), (226, RTy.fn), (227, RTy.fn), (228, RTy.fn), (229, RTy.fn), (230, RTy.fn), (231, RTy.fn), (232, RTy.fn), (233, RTy.fn), (234, RTy.fn), (235, RTy.fn), (236, RTy.fn), (237, RTy.fn), (238, RTy.fn), (239, RTy.fn), (240, RTy.fn), (241, RTy.fn), (242, RTy.fn), (243, RTy.fn), (244, RTy.fn), (245, RTy.fn), (246, RTy.fn), (247, RTy.fn), (248, RTy.fn), (249, RTy.fn), (250, RTy.fn), (251, RTy.fn), (252, RTy.fn), (253, RTy.fn), (254, (RTy.int .u64)), (256, t256), (257, T30), (258, RTy.fn), (259, RTy.fn), (260, RTy.fn), (261, t261), (262, RTy.fn), (263, RTy.fn), (265, RTy.fn), (266, RTy.fn), (267, RTy.fn), (268, RTy.fn), (269, RTy.fn), (270, (RTy.int .u64)), (271, RTy.fn), (272, RTy.fn), (273, RTy.fn), (274, RTy.fn), (275, RTy.fn), (276, RTy.fn), (277, RTy.fn), (278, RTy.fn), (279, RTy.fn), (280, RTy.fn), (281, RTy.fn), (282, RTy.fn), (283, t283), (284, (RTy.int .u32)), (286, t286), (287, T31), (288, RTy.fn), (289, RTy.fn), (290, RTy.fn), (291, RTy.fn), (292, RTy.fn), (293, RTy.fn), (294, RTy.fn), (295, I), (297, RTy.fn), (298, RTy.fn), (299, RTy.fn), (300, RTy.fn), (301, RTy.fn), (302, t302), (303, T32), (304, (RTy.list RTy.fn)), (305, RTy.fn), (306, RTy.fn), (307, RTy.fn), (308, RTy.fn), (310, RTy.fn), (311, RTy.fn), (312, (RTy.int .u64)), (313, RTy.fn), (314, RTy.fn), (315, RTy.fn), (317, RTy.fn), (318, RTy.fn), (319, RTy.fn), (320, t320), (321, t321), (322, RTy.fn), (323, RTy.fn), (324, RTy.fn), (325, RTy.fn), (327, RTy.fn), (328, RTy.fn), (329, RTy.fn), (330, RTy.fn), (331, RTy.fn), (334, RTy.unit), (335, t335), (336, t336), (337, RTy.fn), (338, (RTy.int .u8)), (339, (RTy.int .u8)), (340, RTy.fn), (342, (RTy.int .i32)), (343, (RTy.int .i32)), (346, t346), (347, T1)]
theorem hm : Tryz.prog.follows .mixedOrders = true := by kernel_rfl
theorem go (K : Calld) (l : List Nat) (C : List (Nat × List Cmd)) (E : List Cmd) {fn : Wy} {m : Nat} {todo : List Item} {st : St} {res : AV} {bout : List (Nat × Blk)} {T : Tree} (h : T.gives Tryz.prog fn m res bout) (e : tree Tryz.prog Rt K fn.rd m l fn.fn.results.toList C E 1000 todo st = T) : Ev Tryz.prog fn m todo st res bout := Ev.tree hm (R := Rt) (K := K) e h
abbrev R_u57 : Type := Int × List (T21).T × List (T21).T
def res_u57 (r : R_u57) : AV := .tup []
def bo_u57 (end_ : Int) (z00 : Int) (z10 : Int) (z20 : List (T21).T) (z30 : List (T21).T) (r : R_u57) : List (Nat × Blk) := [(0, .var 3 [.r (.v (.int .i64 r.1))]), (0, .var 3 [.r (.v (.int .i64 z10))]), (0, .var 92 [.own 3 1]), (1, .row 91 T21 r.2.1), (0, .var 92 [.own 5 1]), (1, .row 91 T21 r.2.2)]
def args_u57 (end_ : Int) (z00 : Int) (z10 : Int) (z20 : List (T21).T) (z30 : List (T21).T) : List AV := [.r (.v (.int .i64 end_)), .ptr 0 0 0, .ptr 1 0 0, .ptr 2 0 0, .ptr 4 0 0]
def bin_u57 (end_ : Int) (z00 : Int) (z10 : Int) (z20 : List (T21).T) (z30 : List (T21).T) : List Blk := [.var 3 [.r (.v (.int .i64 z00))], .var 3 [.r (.v (.int .i64 z10))], .var 92 [.own 3 0], .row 91 T21 z20, .var 92 [.own 5 0], .row 91 T21 z30]
abbrev C_u57 (end_ : Int) (z00 : Int) (z10 : Int) (z20 : List (T21).T) (z30 : List (T21).T) (r : R_u57) : Prop := CC Tryz.prog 126 (args_u57 end_ z00 z10 z20 z30) (bin_u57 end_ z00 z10 z20 z30) (res_u57 r) (bo_u57 end_ z00 z10 z20 z30 r)
def f_u57 (k : Nat) (end_ : Int) (z00 : Int) (z10 : Int) (z20 : List (T21).T) (z30 : List (T21).T) : Option R_u57 :=
  bif (decide (IntKind.i64.wrap (end_ - z00) ≥ z10)) then
  if ((z20.length + [(z00, end_)].length) * (16 : Nat) ≤ (140737488355328 : Nat)) then
  some ((end_, z20 ++ [(z00, end_)], z30))
  else none
  else
  if ((z30.length + [(z00, end_)].length) * (16 : Nat) ≤ (140737488355328 : Nat)) then
  some ((end_, z20, z30 ++ [(z00, end_)]))
  else none
def v_u57 (k : Nat) (end_ : Int) (z00 : Int) (z10 : Int) (z20 : List (T21).T) (z30 : List (T21).T) : R_u57 := (f_u57 k end_ z00 z10 z20 z30).getD (0, [], [])
def ke_u57 (k : Nat) : Ke := (126, fun xs => match xs with
  | [_, .ptr _ _ _, .ptr _ _ _, .ptr _ _ _, .ptr _ _ _] => some [false, true, true, true, true]
  | _ => none, fun xs bs => match xs, bs with
  | [.r (.v (.int .i64 end_)), .ptr 0 0 0, .ptr 1 0 0, .ptr 2 0 0, .ptr 4 0 0], [.var 3 [.r (.v (.int .i64 z00))], .var 3 [.r (.v (.int .i64 z10))], .var 92 [.own 3 0], .row 91 tz20_ qz20, .var 92 [.own 5 0], .row 91 tz30_ qz30] => (castL tz20_ T21 qz20).bind fun z20 => (castL tz30_ T21 qz30).bind fun z30 => some (.one (res_u57 (v_u57 k end_ z00 z10 z20 z30), bo_u57 end_ z00 z10 z20 z30 (v_u57 k end_ z00 z10 z20 z30)))
  | _, _ => none)
theorem of_u57 (k : Nat) (end_ : Int) (z00 : Int) (z10 : Int) (z20 : List (T21).T) (z30 : List (T21).T) (r : R_u57) (h : f_u57 k end_ z00 z10 z20 z30 = some r) : C_u57 end_ z00 z10 z20 z30 r := by
  refine CC.of (fn := Tryz.f126) (by kernel_rfl) (by kernel_rfl) (by kernel_rfl) (by kernel_rfl) ?_
  unfold f_u57 at h
  exact go (mkK []) [] [] [.autoB [] true [3, 5]] (gT h (fun c h => gN1 h id fun h => gL h) fun c h => gN1 h id fun h => gL h) (by kernel_rfl)
theorem cc_u57 {k : Nat} {end_ : Int} {z00 : Int} {z10 : Int} {z20 : List (T21).T} {z30 : List (T21).T} (h : (f_u57 k end_ z00 z10 z20 z30).isSome = true) : C_u57 end_ z00 z10 z20 z30 (v_u57 k end_ z00 z10 z20 z30) := ccG (Φ := C_u57 end_ z00 z10 z20 z30) h (of_u57 k end_ z00 z10 z20 z30)
abbrev R_u0 : Type := List (T21).T × List (T21).T
def res_u0 (r : R_u0) : AV := .r (.v (.bool true))
def bo_u0 (s40 : List (I).T) (s50 : Int) (s110 : List (T21).T) (s120 : List (T21).T) (x0 : T21.T) (r : R_u0) : List (Nat × Blk) := [(0, .loop .ready none (rcAt Tryz.f81 11 [91]) (mkS 66 [(4, .ptr 1 0 0), (5, .ptr 2 0 0), (11, .ptr 3 0 0), (12, .ptr 5 0 0)])), (0, .var 25 [.r (.ro I s40)]), (0, .var 3 [.r (.v (.int .i64 s50))]), (0, .var 92 [.own 4 1]), (1, .row 91 T21 r.1), (0, .var 92 [.own 6 1]), (1, .row 91 T21 r.2)]
def args_u0 (s40 : List (I).T) (s50 : Int) (s110 : List (T21).T) (s120 : List (T21).T) (x0 : T21.T) : List AV := [.agg (rvs (enc T21 x0))]
def bin_u0 (s40 : List (I).T) (s50 : Int) (s110 : List (T21).T) (s120 : List (T21).T) (x0 : T21.T) : List Blk := [.loop .ready none (rcAt Tryz.f81 11 [91]) (mkS 66 [(4, .ptr 1 0 0), (5, .ptr 2 0 0), (11, .ptr 3 0 0), (12, .ptr 5 0 0)]), .var 25 [.r (.ro I s40)], .var 3 [.r (.v (.int .i64 s50))], .var 92 [.own 4 0], .row 91 T21 s110, .var 92 [.own 6 0], .row 91 T21 s120]
abbrev C_u0 (s40 : List (I).T) (s50 : Int) (s110 : List (T21).T) (s120 : List (T21).T) (x0 : T21.T) (r : R_u0) : Prop := YC Tryz.prog (args_u0 s40 s50 s110 s120 x0) (bin_u0 s40 s50 s110 s120 x0) (res_u0 r) (bo_u0 s40 s50 s110 s120 x0 r)
def st_u0_15 (s40 : List (I).T) (s50 : Int) (s110 : List (T21).T) (s120 : List (T21).T) (x0 : T21.T) (y0 : List (I).T) (y1 : Int) (y2 : Int) (y3 : List (T21).T) (y4 : List (T21).T) (y5 : T21.T) (y6 : Int) : St := ⟨mkS 66 [(13, .ptr 1000000 0 0), (15, .fn ((Fn.func 126)) [] [.ptr 1000001 0 0, .ptr 2 0 0, .ptr 3 0 0, .ptr 5 0 0]), (40, .r (.ro I y0)), (41, .r (.v (.int .i64 y1))), (42, .r (.v (.int .i64 y2)))], [(0, 0, .loop .busy none (rcAt Tryz.f81 11 [91]) (mkS 66 [(4, .ptr 1 0 0), (5, .ptr 2 0 0), (11, .ptr 3 0 0), (12, .ptr 5 0 0)])), (1, 0, .var 25 [.r (.ro I s40)]), (2, 0, .var 3 [.r (.v (.int .i64 s50))]), (3, 0, .var 92 [.own 4 1]), (4, 1, .row 91 T21 y3), (5, 0, .var 92 [.own 6 1]), (6, 1, .row 91 T21 y4), (1000000, 0, .var 91 (rvs (enc T21 y5))), (1000001, 0, .var 3 [.r (.v (.int .i64 y6))])]⟩
def f_u0_15 (k : Nat) (s40 : List (I).T) (s50 : Int) (s110 : List (T21).T) (s120 : List (T21).T) (x0 : T21.T) : Nat → List (I).T → Int → Int → List (T21).T → List (T21).T → T21.T → Int → Option R_u0
  | 0, _, _, _, _, _, _, _ => none
  | j + 1, y0, y1, y2, y3, y4, y5, y6 =>
  bif (decide (y2 < y1)) then
  if (0 ≤ y2) ∧ (y2 < (↑y0.length : Int)) then
  bif (decide (y0.getD y2.toNat I.dflt > y5.1) && decide (y0.getD y2.toNat I.dflt < y5.2)) then
  if ((f_u57 k (y0.getD y2.toNat I.dflt) y6 s50 y3 y4).isSome = true) then
  f_u0_15 k s40 s50 s110 s120 x0 j y0 y1 ((IntKind.i64.wrap (y2 + 1))) ((v_u57 k (y0.getD y2.toNat I.dflt) y6 s50 y3 y4).2.1) ((v_u57 k (y0.getD y2.toNat I.dflt) y6 s50 y3 y4).2.2) y5 ((v_u57 k (y0.getD y2.toNat I.dflt) y6 s50 y3 y4).1)
  else none
  else
  f_u0_15 k s40 s50 s110 s120 x0 j y0 y1 ((IntKind.i64.wrap (y2 + 1))) y3 y4 y5 y6
  else none
  else
  if ((f_u57 k y5.2 y6 s50 y3 y4).isSome = true) then
  some (((v_u57 k y5.2 y6 s50 y3 y4).2.1, (v_u57 k y5.2 y6 s50 y3 y4).2.2))
  else none
def f_u0 (k : Nat) (s40 : List (I).T) (s50 : Int) (s110 : List (T21).T) (s120 : List (T21).T) (x0 : T21.T) : Option R_u0 :=
  f_u0_15 k s40 s50 s110 s120 x0 k s40 ((↑s40.length : Int)) 0 s110 s120 x0 x0.1
def v_u0 (k : Nat) (s40 : List (I).T) (s50 : Int) (s110 : List (T21).T) (s120 : List (T21).T) (x0 : T21.T) : R_u0 := (f_u0 k s40 s50 s110 s120 x0).getD ([], [])
def ke_u0 (k : Nat) : Ke := (1000000, fun xs => match xs with
  | [_] => some [false]
  | _ => none, fun xs bs => match xs, bs with
  | [.agg qx0], [.loop _ _ _ qs, .var 25 [.r (.ro ts40_ qs40)], .var 3 [.r (.v (.int .i64 s50))], .var 92 [.own 4 0], .row 91 ts110_ qs110, .var 92 [.own 6 0], .row 91 ts120_ qs120] => (decS [] T21 qx0).bind fun x0 => (castL ts40_ I qs40).bind fun s40 => (castL ts110_ T21 qs110).bind fun s110 => (castL ts120_ T21 qs120).bind fun s120 => some (.one (res_u0 (v_u0 k s40 s50 s110 s120 x0), bo_u0 s40 s50 s110 s120 x0 (v_u0 k s40 s50 s110 s120 x0)))
  | _, _ => none)
def cs_u0 : List (Nat × List Cmd) := [(15, [.autoB [13, 15, 40, 41, 42] false [4, 6]])]
abbrev E_u0 (s40 : List (I).T) (s50 : Int) (s110 : List (T21).T) (s120 : List (T21).T) (x0 : T21.T) (todo : List Item) (st : St) (o : Option R_u0) : Prop := ∀ r, o = some r → Ev Tryz.prog .round 7 todo st (res_u0 r) (bo_u0 s40 s50 s110 s120 x0 r)
theorem ev_u0 (k : Nat) (s40 : List (I).T) (s50 : Int) (s110 : List (T21).T) (s120 : List (T21).T) (x0 : T21.T) : ∀ j, (∀ (y0 : List (I).T) (y1 : Int) (y2 : Int) (y3 : List (T21).T) (y4 : List (T21).T) (y5 : T21.T) (y6 : Int), E_u0 s40 s50 s110 s120 x0 (placeC (rcAt Tryz.f81 11 [91]).body 15) (st_u0_15 s40 s50 s110 s120 x0 y0 y1 y2 y3 y4 y5 y6) (f_u0_15 k s40 s50 s110 s120 x0 j y0 y1 y2 y3 y4 y5 y6))
  | 0 => fun _ _ _ _ _ _ _ _ h => (nomatch h)
  | j + 1 => by
    have ih := @ev_u0 k s40 s50 s110 s120 x0 j
    · intro y0 y1 y2 y3 y4 y5 y6 r h
      rw [f_u0_15] at h
      exact go (mkK [ke_u57 k]) [] cs_u0 [.autoB [0] true [4, 6]] (gT h (fun c h => gN2 h fun h => gT h (fun c h => gN1 h (fun q => cc_u57 q) fun h => gC h 15 (ih _ _ _ _ _ _ _ _)) fun c h => gC h 15 (ih _ _ _ _ _ _ _ _)) fun c h => gN1 h (fun q => cc_u57 q) fun h => gL h) (by kernel_rfl)
theorem of_u0 (k : Nat) (s40 : List (I).T) (s50 : Int) (s110 : List (T21).T) (s120 : List (T21).T) (x0 : T21.T) (r : R_u0) (h : f_u0 k s40 s50 s110 s120 x0 = some r) : C_u0 s40 s50 s110 s120 x0 r := by
  refine YC.of (by rw [show bin_u0 s40 s50 s110 s120 x0 = _ from rfl]; exact List.cons_ne_nil _ _) (by kernel_rfl) ?_
  unfold f_u0 at h
  exact go (mkK [ke_u57 k]) [] cs_u0 [.autoB [0] true [4, 6]] (gC h 15 ((ev_u0 k s40 s50 s110 s120 x0 k) _ _ _ _ _ _ _ _)) (by kernel_rfl)
theorem cc_u0 {k : Nat} {s40 : List (I).T} {s50 : Int} {s110 : List (T21).T} {s120 : List (T21).T} {x0 : T21.T} (h : (f_u0 k s40 s50 s110 s120 x0).isSome = true) : C_u0 s40 s50 s110 s120 x0 (v_u0 k s40 s50 s110 s120 x0) := ccG (Φ := C_u0 s40 s50 s110 s120 x0) h (of_u0 k s40 s50 s110 s120 x0)

end
/-! ### a stretch is cut: the program -/
theorem gdm {α : Type} (l : List α) (i : Nat) (d : α) (h : i < l.length) : l.getD i d ∈ l := by simp [h]
theorem pcS_at (least : Int) (p : Pcs) (e : Int) : (pcS least p e).1 = e := by
  unfold pcS; cases decide (e - p.1 ≥ least) <;> rfl
theorem pcS_eta (least : Int) (p : Pcs) (e : Int) : ((e, (pcS least p e).2.1, (pcS least p e).2.2) : Pcs) = pcS least p e := by
  unfold pcS; cases decide (e - p.1 ≥ least) <;> rfl
theorem reel_Cut_1_s (k : Nat) (e z : Int) (least : Int) (a b : List (Int × Int)) (h0 : 0 ≤ e) (h1 : e ≤ 17179869184) (z0 : 0 ≤ z) (z1 : z ≤ 17179869184) (hl : a.length + b.length ≤ 1000000) :
    f_u57 k e z least a b = some (pcS least (z, a, b) e) := by
  unfold f_u57 pcS
  rw [wrap_id (by omega) (by omega)]
  cases decide (e - z ≥ least)
  · rw [cond_false, cond_false, if_pos (by simp only [List.length_singleton]; omega)]
  · rw [cond_true, cond_true, if_pos (by simp only [List.length_singleton]; omega)]
theorem reel_Cut_1_v (k : Nat) (e z : Int) (least : Int) (a b : List (Int × Int)) (h0 : 0 ≤ e) (h1 : e ≤ 17179869184) (z0 : 0 ≤ z) (z1 : z ≤ 17179869184) (hl : a.length + b.length ≤ 1000000) :
    v_u57 k e z least a b = pcS least (z, a, b) e := by
  unfold v_u57; rw [reel_Cut_1_s k e z least a b h0 h1 z0 z1 hl]; rfl
theorem rCut_15 (k : Nat) (q1 : List Int) (least : Int) (q3 q4 : List (Int × Int)) (q5 s : Int × Int) (turns : List Int) (ht : ∀ x ∈ turns, 0 ≤ x ∧ x ≤ 17179869184) (hn : turns.length ≤ 512) (hs : 0 ≤ s.2 ∧ s.2 ≤ 17179869184) :
    ∀ (d i j : Nat) (a b : List (Int × Int)) (z : Int), i + d = turns.length → d < j → 0 ≤ z → z ≤ 17179869184 → a.length + b.length + d + 1 ≤ 1000000 →
      f_u0_15 k q1 least q3 q4 q5 j turns (turns.length : Int) (i : Int) a b s z = some ((pcsS least (z, a, b) ((turns.drop i).filter (fun x => decide (x > s.1) && decide (x < s.2)) ++ [s.2])).2.1, (pcsS least (z, a, b) ((turns.drop i).filter (fun x => decide (x > s.1) && decide (x < s.2)) ++ [s.2])).2.2) := by
  intro d
  induction d with
  | zero =>
    intro i j a b z hi hj z0 z1 hl
    obtain ⟨j, rfl⟩ : ∃ q, j = q + 1 := ⟨j - 1, by omega⟩
    rw [f_u0_15, decide_eq_false (by omega : ¬ (i : Int) < (turns.length : Int)), cond_false, List.drop_of_length_le (by omega), reel_Cut_1_s k s.2 z least a b hs.1 hs.2 z0 z1 (by omega), Option.isSome_some, if_pos rfl, reel_Cut_1_v k s.2 z least a b hs.1 hs.2 z0 z1 (by omega)]
    rfl
  | succ d ih =>
    intro i j a b z hi hj z0 z1 hl
    obtain ⟨j, rfl⟩ : ∃ q, j = q + 1 := ⟨j - 1, by omega⟩
    have hx := ht (turns.getD i I.dflt) (gdm _ _ _ (by omega))
    rw [f_u0_15, decide_eq_true (by omega : (i : Int) < (turns.length : Int)), cond_true, if_pos ⟨by omega, by omega⟩, Int.toNat_natCast, wrapS i (by omega), drop_cons' turns i I.dflt (by omega), List.filter_cons]
    cases hc : (decide (turns.getD i I.dflt > s.1) && decide (turns.getD i I.dflt < s.2))
    · rw [cond_false, ih (i + 1) j a b z (by omega) (by omega) z0 z1 (by omega), if_neg (fun h => nomatch h)]
    · have hp := pcS_len least (z, a, b) (turns.getD i I.dflt)
      rw [cond_true, reel_Cut_1_s k _ z least a b hx.1 hx.2 z0 z1 (by omega), Option.isSome_some, if_pos rfl, reel_Cut_1_v k _ z least a b hx.1 hx.2 z0 z1 (by omega), if_pos rfl, pcS_at]
      rw [ih (i + 1) j _ _ _ (by omega) (by omega) hx.1 hx.2 (by simp only at hp; omega)]
      rw [List.cons_append]
      have he : ((turns.getD i I.dflt, (pcS least (z, a, b) (turns.getD i I.dflt)).2.1, (pcS least (z, a, b) (turns.getD i I.dflt)).2.2) : Pcs) = pcS least (z, a, b) (turns.getD i I.dflt) := pcS_eta least (z, a, b) _
      rw [he]
      rfl
theorem rCut_s (k : Nat) (hk : 600 ≤ k) (turns : List Int) (least : Int) (a b : List (Int × Int)) (s : Int × Int) (ht : ∀ x ∈ turns, 0 ≤ x ∧ x ≤ 17179869184) (hn : turns.length ≤ 512) (h1 : 0 ≤ s.1 ∧ s.1 ≤ 17179869184) (hs : 0 ≤ s.2 ∧ s.2 ≤ 17179869184) (hl : a.length + b.length ≤ 900000) :
    f_u0 k turns least a b s = some (cut1S turns least (a, b) s) := by
  unfold f_u0
  exact rCut_15 k turns least a b s s turns ht hn hs turns.length 0 k a b s.1 (by omega) (by omega) h1.1 h1.2 (by omega)
theorem rCut_v (k : Nat) (hk : 600 ≤ k) (turns : List Int) (least : Int) (a b : List (Int × Int)) (s : Int × Int) (ht : ∀ x ∈ turns, 0 ≤ x ∧ x ≤ 17179869184) (hn : turns.length ≤ 512) (h1 : 0 ≤ s.1 ∧ s.1 ≤ 17179869184) (hs : 0 ≤ s.2 ∧ s.2 ≤ 17179869184) (hl : a.length + b.length ≤ 900000) :
    v_u0 k turns least a b s = cut1S turns least (a, b) s := by
  unfold v_u0; rw [rCut_s k hk turns least a b s ht hn h1 hs hl]; rfl
end Go.AM
namespace Go.AM
open Go Go.Proofs
noncomputable section
abbrev R_u60 : Type := Int
def res_u60 (r : R_u60) : AV := .r (.v (.int .i64 r))
def bo_u60 (turns_ : List (I).T) (r : R_u60) : List (Nat × Blk) := []
def args_u60 (turns_ : List (I).T) : List AV := [.r (.ro I turns_)]
def bin_u60 (turns_ : List (I).T) : List Blk := []
abbrev C_u60 (turns_ : List (I).T) (r : R_u60) : Prop := CC Tryz.prog 124 (args_u60 turns_) (bin_u60 turns_) (res_u60 r) (bo_u60 turns_ r)
def st_u60_4 (y0 : List (I).T) (y1 : List (I).T) (y2 : Int) (y3 : Int) : St := ⟨mkS 42 [(0, .r (.ro I y0)), (9, .r (.ro I y1)), (10, .r (.v (.int .i64 y2))), (11, .r (.v (.int .i64 y3)))], []⟩
def st_u60_10 (y0 : List (I).T) (y1 : Int) (y2 : Int) : St := ⟨mkS 42 [(0, .r (.ro I y0)), (23, .r (.v (.int .i64 y1))), (24, .r (.v (.int .i64 y2)))], []⟩
mutual
def f_u60_4 (k : Nat) : Nat → List (I).T → List (I).T → Int → Int → Option R_u60
  | 0, _, _, _, _ => none
  | j + 1, y0, y1, y2, y3 =>
  bif (decide (y3 < y2)) then
  if (0 ≤ y3) ∧ (y3 < (↑y1.length : Int)) then
  bif (decide (y1.getD y3.toNat I.dflt < (0 : Int)) || decide (y1.getD y3.toNat I.dflt > (17179869184 : Int))) then
  some 1
  else
  f_u60_4 k j y0 y1 y2 ((IntKind.i64.wrap (y3 + 1)))
  else none
  else
  f_u60_10 k j y0 ((↑y0.length : Int)) 0
def f_u60_10 (k : Nat) : Nat → List (I).T → Int → Int → Option R_u60
  | 0, _, _, _ => none
  | j + 1, y0, y1, y2 =>
  bif (decide (y2 < y1)) then
  if (decide (y2 > (0 : Int)) = true → 0 ≤ y2) ∧ (decide (y2 > (0 : Int)) = true → y2 < (↑y0.length : Int)) ∧ (decide (y2 > (0 : Int)) = true → (0 : Int) ≤ IntKind.i64.wrap (y2 - (1 : Int))) ∧ (decide (y2 > (0 : Int)) = true → IntKind.i64.wrap (y2 - (1 : Int)) < (↑y0.length : Int)) then
  bif (decide (y2 > (0 : Int)) && decide (y0.getD y2.toNat I.dflt ≤ y0.getD (IntKind.i64.wrap (y2 - (1 : Int))).toNat I.dflt)) then
  some 9
  else
  f_u60_10 k j y0 y1 ((IntKind.i64.wrap (y2 + 1)))
  else none
  else
  some 0
end
def f_u60 (k : Nat) (turns_ : List (I).T) : Option R_u60 :=
  bif (decide ((↑turns_.length : Int) > (512 : Int))) then
  some 8
  else
  f_u60_4 k k turns_ turns_ ((↑turns_.length : Int)) 0
def v_u60 (k : Nat) (turns_ : List (I).T) : R_u60 := (f_u60 k turns_).getD 0
def ke_u60 (k : Nat) : Ke := (124, fun xs => match xs with
  | [_] => some [false]
  | _ => none, fun xs bs => match xs, bs with
  | [.r (.ro tturns__ qturns_)], [] => (castL tturns__ I qturns_).bind fun turns_ => some (.one (res_u60 (v_u60 k turns_), bo_u60 turns_ (v_u60 k turns_)))
  | _, _ => none)
def cs_u60 : List (Nat × List Cmd) := [(4, [.autoB [0, 9, 10, 11] false []]), (10, [.autoB [0, 23, 24] false []])]
abbrev E_u60 (turns_ : List (I).T) (todo : List Item) (st : St) (o : Option R_u60) : Prop := ∀ r, o = some r → Ev Tryz.prog Tryz.f124 0 todo st (res_u60 r) (bo_u60 turns_ r)
theorem ev_u60 (k : Nat) (turns_ : List (I).T) : ∀ j, (∀ (y0 : List (I).T) (y1 : List (I).T) (y2 : Int) (y3 : Int), E_u60 turns_ (placeAt Tryz.f124 4) (st_u60_4 y0 y1 y2 y3) (f_u60_4 k j y0 y1 y2 y3)) ∧ (∀ (y0 : List (I).T) (y1 : Int) (y2 : Int), E_u60 turns_ (placeAt Tryz.f124 10) (st_u60_10 y0 y1 y2) (f_u60_10 k j y0 y1 y2))
  | 0 => ⟨fun _ _ _ _ _ h => (nomatch h), fun _ _ _ _ h => (nomatch h)⟩
  | j + 1 => by
    have ih := @ev_u60 k turns_ j
    refine ⟨?_, ?_⟩
    · intro y0 y1 y2 y3 r h
      rw [f_u60_4] at h
      exact go (mkK []) [] cs_u60 [.autoB [2] true []] (gT h (fun c h => gN2 h fun h => gT h (fun c h => gL h) fun c h => gC h 4 (ih.1 _ _ _ _ _)) fun c h => gC h 10 (ih.2 _ _ _ _)) (by kernel_rfl)
    · intro y0 y1 y2 r h
      rw [f_u60_10] at h
      exact go (mkK []) [] cs_u60 [.autoB [2] true []] (gT h (fun c h => gN h (fun q => conjC q.1 (conjC q.2.1 (conjC q.2.2.1 (conjC q.2.2.2 conj0)))) fun h => gT h (fun c h => gL h) fun c h => gC h 10 (ih.2 _ _ _ _)) fun c h => gL h) (by kernel_rfl)
theorem of_u60 (k : Nat) (turns_ : List (I).T) (r : R_u60) (h : f_u60 k turns_ = some r) : C_u60 turns_ r := by
  refine CC.of (fn := Tryz.f124) (by kernel_rfl) (by kernel_rfl) (by kernel_rfl) (by kernel_rfl) ?_
  unfold f_u60 at h
  exact go (mkK []) [] cs_u60 [.autoB [2] true []] (gT h (fun c h => gL h) fun c h => gC h 4 ((ev_u60 k turns_ k).1 _ _ _ _ _)) (by kernel_rfl)
theorem cc_u60 {k : Nat} {turns_ : List (I).T} (h : (f_u60 k turns_).isSome = true) : C_u60 turns_ (v_u60 k turns_) := ccG (Φ := C_u60 turns_) h (of_u60 k turns_)
abbrev R_u51 : Type := Int
def res_u51 (r : R_u51) : AV := .r (.v (.int .i64 r))
def bo_u51 (turns_ : List (I).T) (r : R_u51) : List (Nat × Blk) := []
def args_u51 (turns_ : List (I).T) : List AV := [.r (.ro I turns_)]
def bin_u51 (turns_ : List (I).T) : List Blk := []
abbrev C_u51 (turns_ : List (I).T) (r : R_u51) : Prop := CC Tryz.prog 84 (args_u51 turns_) (bin_u51 turns_) (res_u51 r) (bo_u51 turns_ r)
def st_u51_4 (y0 : List (I).T) (y1 : Int) : St := ⟨mkS 42 [(0, .r (.ro I y0)), (3, .r (.v (.int .i64 y1)))], []⟩
def st_u51_9 (y0 : List (I).T) (y1 : Int) : St := ⟨mkS 42 [(0, .r (.ro I y0)), (4, .r (.v (.int .i64 y1)))], []⟩
mutual
def f_u51_4 (k : Nat) : Nat → List (I).T → Int → Option R_u51
  | 0, _, _ => none
  | j + 1, y0, y1 =>
  bif (decide (y1 < (↑y0.length : Int))) then
  if (0 ≤ y1) ∧ (y1 < (↑y0.length : Int)) ∧ (decide (y0.getD y1.toNat I.dflt < (0 : Int)) = false → 0 ≤ y1) ∧ (decide (y0.getD y1.toNat I.dflt < (0 : Int)) = false → y1 < (↑y0.length : Int)) then
  bif (decide (y0.getD y1.toNat I.dflt < (0 : Int)) || decide (y0.getD y1.toNat I.dflt > (17179869184 : Int))) then
  some 1
  else
  f_u51_4 k j y0 ((IntKind.i64.wrap (y1 + 1)))
  else none
  else
  f_u51_9 k j y0 1
def f_u51_9 (k : Nat) : Nat → List (I).T → Int → Option R_u51
  | 0, _, _ => none
  | j + 1, y0, y1 =>
  bif (decide (y1 < (↑y0.length : Int))) then
  if (0 ≤ y1) ∧ (y1 < (↑y0.length : Int)) ∧ ((0 : Int) ≤ IntKind.i64.wrap (y1 - (1 : Int))) ∧ (IntKind.i64.wrap (y1 - (1 : Int)) < (↑y0.length : Int)) then
  bif (decide (y0.getD y1.toNat I.dflt ≤ y0.getD (IntKind.i64.wrap (y1 - (1 : Int))).toNat I.dflt)) then
  some 9
  else
  f_u51_9 k j y0 ((IntKind.i64.wrap (y1 + 1)))
  else none
  else
  some 0
end
def f_u51 (k : Nat) (turns_ : List (I).T) : Option R_u51 :=
  bif (decide ((↑turns_.length : Int) > (512 : Int))) then
  some 8
  else
  f_u51_4 k k turns_ 0
def v_u51 (k : Nat) (turns_ : List (I).T) : R_u51 := (f_u51 k turns_).getD 0
def ke_u51 (k : Nat) : Ke := (84, fun xs => match xs with
  | [_] => some [false]
  | _ => none, fun xs bs => match xs, bs with
  | [.r (.ro tturns__ qturns_)], [] => (castL tturns__ I qturns_).bind fun turns_ => some (.one (res_u51 (v_u51 k turns_), bo_u51 turns_ (v_u51 k turns_)))
  | _, _ => none)
def cs_u51 : List (Nat × List Cmd) := [(4, [.autoB [0, 3] false []]), (9, [.autoB [0, 4] false []])]
abbrev E_u51 (turns_ : List (I).T) (todo : List Item) (st : St) (o : Option R_u51) : Prop := ∀ r, o = some r → Ev Tryz.prog Tryz.f84 0 todo st (res_u51 r) (bo_u51 turns_ r)
theorem ev_u51 (k : Nat) (turns_ : List (I).T) : ∀ j, (∀ (y0 : List (I).T) (y1 : Int), E_u51 turns_ (placeAt Tryz.f84 4) (st_u51_4 y0 y1) (f_u51_4 k j y0 y1)) ∧ (∀ (y0 : List (I).T) (y1 : Int), E_u51 turns_ (placeAt Tryz.f84 9) (st_u51_9 y0 y1) (f_u51_9 k j y0 y1))
  | 0 => ⟨fun _ _ _ h => (nomatch h), fun _ _ _ h => (nomatch h)⟩
  | j + 1 => by
    have ih := @ev_u51 k turns_ j
    refine ⟨?_, ?_⟩
    · intro y0 y1 r h
      rw [f_u51_4] at h
      exact go (mkK []) [] cs_u51 [.autoB [2] true []] (gT h (fun c h => gN h (fun q => conjC q.1 (conjC q.2.1 (conjC q.2.2.1 (conjC q.2.2.2 conj0)))) fun h => gT h (fun c h => gL h) fun c h => gC h 4 (ih.1 _ _ _)) fun c h => gC h 9 (ih.2 _ _ _)) (by kernel_rfl)
    · intro y0 y1 r h
      rw [f_u51_9] at h
      exact go (mkK []) [] cs_u51 [.autoB [2] true []] (gT h (fun c h => gN h (fun q => conjC q.1 (conjC q.2.1 (conjC q.2.2.1 (conjC q.2.2.2 conj0)))) fun h => gT h (fun c h => gL h) fun c h => gC h 9 (ih.2 _ _ _)) fun c h => gL h) (by kernel_rfl)
theorem of_u51 (k : Nat) (turns_ : List (I).T) (r : R_u51) (h : f_u51 k turns_ = some r) : C_u51 turns_ r := by
  refine CC.of (fn := Tryz.f84) (by kernel_rfl) (by kernel_rfl) (by kernel_rfl) (by kernel_rfl) ?_
  unfold f_u51 at h
  exact go (mkK []) [] cs_u51 [.autoB [2] true []] (gT h (fun c h => gL h) fun c h => gC h 4 ((ev_u51 k turns_ k).1 _ _ _)) (by kernel_rfl)
theorem cc_u51 {k : Nat} {turns_ : List (I).T} (h : (f_u51 k turns_).isSome = true) : C_u51 turns_ (v_u51 k turns_) := ccG (Φ := C_u51 turns_) h (of_u51 k turns_)
abbrev R_u49 : Type := List (T21).T
def res_u49 (r : R_u49) : AV := .r (.ro T21 r)
def bo_u49 (l_ : List (T2).T) (r : R_u49) : List (Nat × Blk) := []
def args_u49 (l_ : List (T2).T) : List AV := [.r (.ro T2 l_)]
def bin_u49 (l_ : List (T2).T) : List Blk := []
abbrev C_u49 (l_ : List (T2).T) (r : R_u49) : Prop := CC Tryz.prog 85 (args_u49 l_) (bin_u49 l_) (res_u49 r) (bo_u49 l_ r)
def st_u49_3 (y0 : List (T2).T) (y1 : Int) (y2 : List (T21).T) : St := ⟨mkS 68 [(0, .r (.ro T2 y0)), (3, .own 1000000 0), (4, .r (.v (.int .i64 y1)))], [(1000000, 0, .row 91 T21 y2)]⟩
def f_u49_3 (k : Nat) : Nat → List (T2).T → Int → List (T21).T → Option R_u49
  | 0, _, _, _ => none
  | j + 1, y0, y1, y2 =>
  bif (decide (y1 < (↑y0.length : Int))) then
  if (0 ≤ y1) ∧ (y1 < (↑y0.length : Int)) then
  bif ((y0.getD y1.toNat T2.dflt).2.2.1 == (3 : Int)) then
  f_u49_3 k j y0 ((IntKind.i64.wrap (y1 + 1))) y2
  else
  if (decide (y1 > (0 : Int)) = true → (0 : Int) ≤ IntKind.i64.wrap (y1 - (1 : Int))) ∧ (decide (y1 > (0 : Int)) = true → IntKind.i64.wrap (y1 - (1 : Int)) < (↑y0.length : Int)) ∧ ((decide (y1 > (0 : Int)) && (y0.getD (IntKind.i64.wrap (y1 - (1 : Int))).toNat T2.dflt).2.2.1 != (3 : Int)) = true → (0 : Int) ≤ IntKind.i64.wrap (y1 - (1 : Int))) ∧ ((decide (y1 > (0 : Int)) && (y0.getD (IntKind.i64.wrap (y1 - (1 : Int))).toNat T2.dflt).2.2.1 != (3 : Int)) = true → IntKind.i64.wrap (y1 - (1 : Int)) < (↑y0.length : Int)) ∧ ((decide (y1 > (0 : Int)) && (y0.getD (IntKind.i64.wrap (y1 - (1 : Int))).toNat T2.dflt).2.2.1 != (3 : Int)) = true → 0 ≤ y1) ∧ ((decide (y1 > (0 : Int)) && (y0.getD (IntKind.i64.wrap (y1 - (1 : Int))).toNat T2.dflt).2.2.1 != (3 : Int)) = true → y1 < (↑y0.length : Int)) then
  bif (decide (y1 > (0 : Int)) && (y0.getD (IntKind.i64.wrap (y1 - (1 : Int))).toNat T2.dflt).2.2.1 != (3 : Int) && (y0.getD (IntKind.i64.wrap (y1 - (1 : Int))).toNat T2.dflt).2.2.2.2 == (y0.getD y1.toNat T2.dflt).2.2.2.2) then
  if (0 ≤ y1) ∧ (y1 < (↑y0.length : Int)) ∧ ((0 : Int) ≤ IntKind.i64.wrap ((↑y2.length : Int) - (1 : Int))) ∧ (IntKind.i64.wrap ((↑y2.length : Int) - (1 : Int)) < (↑y2.length : Int)) then
  f_u49_3 k j y0 ((IntKind.i64.wrap (y1 + 1))) ((y2.set (IntKind.i64.wrap ((↑y2.length : Int) - 1)).toNat ((y2.getD (IntKind.i64.wrap ((↑y2.length : Int) - 1)).toNat T21.dflt).1, (y0.getD y1.toNat T2.dflt).2.1)))
  else none
  else
  if (0 ≤ y1) ∧ (y1 < (↑y0.length : Int)) ∧ (0 ≤ y1) ∧ (y1 < (↑y0.length : Int)) ∧ ((y2.length + [((y0.getD y1.toNat T2.dflt).1, (y0.getD y1.toNat T2.dflt).2.1)].length) * (16 : Nat) ≤ (140737488355328 : Nat)) then
  f_u49_3 k j y0 ((IntKind.i64.wrap (y1 + 1))) ((y2 ++ [((y0.getD y1.toNat T2.dflt).1, (y0.getD y1.toNat T2.dflt).2.1)]))
  else none
  else none
  else none
  else
  some y2
def f_u49 (k : Nat) (l_ : List (T2).T) : Option R_u49 :=
  f_u49_3 k k l_ 0 ([])
def v_u49 (k : Nat) (l_ : List (T2).T) : R_u49 := (f_u49 k l_).getD []
def ke_u49 (k : Nat) : Ke := (85, fun xs => match xs with
  | [_] => some [false]
  | _ => none, fun xs bs => match xs, bs with
  | [.r (.ro tl__ ql_)], [] => (castL tl__ T2 ql_).bind fun l_ => some (.one (res_u49 (v_u49 k l_), bo_u49 l_ (v_u49 k l_)))
  | _, _ => none)
def cs_u49 : List (Nat × List Cmd) := [(3, [.row 3 91 T21, .autoB [0, 3, 4] false []])]
abbrev E_u49 (l_ : List (T2).T) (todo : List Item) (st : St) (o : Option R_u49) : Prop := ∀ r, o = some r → Ev Tryz.prog Tryz.f85 0 todo st (res_u49 r) (bo_u49 l_ r)
theorem ev_u49 (k : Nat) (l_ : List (T2).T) : ∀ j, (∀ (y0 : List (T2).T) (y1 : Int) (y2 : List (T21).T), E_u49 l_ (placeAt Tryz.f85 3) (st_u49_3 y0 y1 y2) (f_u49_3 k j y0 y1 y2))
  | 0 => fun _ _ _ _ h => (nomatch h)
  | j + 1 => by
    have ih := @ev_u49 k l_ j
    · intro y0 y1 y2 r h
      rw [f_u49_3] at h
      exact go (mkK []) [] cs_u49 [.frz 2 false (RTy.list T21), .autoB [2] true []] (gT h (fun c h => gN2 h fun h => gT h (fun c h => gC h 3 (ih _ _ _ _)) fun c h => gN h (fun q => conjC q.1 (conjC q.2.1 (conjC q.2.2.1 (conjC q.2.2.2.1 (conjC q.2.2.2.2.1 (conjC q.2.2.2.2.2 conj0)))))) fun h => gT h (fun c h => gN h (fun q => conjC q.1 (conjC q.2.1 (conjC q.2.2.1 (conjC q.2.2.2 conj0)))) fun h => gC h 3 (ih _ _ _ _)) fun c h => gN h (fun q => conjC q.1 (conjC q.2.1 (conjC q.2.2.1 (conjC q.2.2.2.1 (conjC q.2.2.2.2 conj0))))) fun h => gC h 3 (ih _ _ _ _)) fun c h => gL h) (by kernel_rfl)
theorem of_u49 (k : Nat) (l_ : List (T2).T) (r : R_u49) (h : f_u49 k l_ = some r) : C_u49 l_ r := by
  refine CC.of (fn := Tryz.f85) (by kernel_rfl) (by kernel_rfl) (by kernel_rfl) (by kernel_rfl) ?_
  unfold f_u49 at h
  exact go (mkK []) [] cs_u49 [.frz 2 false (RTy.list T21), .autoB [2] true []] (gC h 3 ((ev_u49 k l_ k) _ _ _ _)) (by kernel_rfl)
theorem cc_u49 {k : Nat} {l_ : List (T2).T} (h : (f_u49 k l_).isSome = true) : C_u49 l_ (v_u49 k l_) := ccG (Φ := C_u49 l_) h (of_u49 k l_)

end
/-! ### turn-ups -/
def tBad (x : Int) : Bool := decide (x < (0 : Int)) || decide (x > (17179869184 : Int))
def tord : Option Int → List Int → Int
  | _, [] => 0
  | none, x :: t => tord (some x) t
  | some p, x :: t => bif decide (x ≤ p) then 9 else tord (some x) t
def turnE (l : List Int) : Int := if l.length > 512 then 8 else if l.any tBad = true then 1 else tord none l
def tpre (l : List Int) (i : Nat) : Option Int := if i = 0 then none else some (l.getD (i - 1) I.dflt)
theorem turns_10 (k : Nat) (l : List Int) (hl : l.length ≤ 512) : ∀ (d i j : Nat), i + d = l.length → d < j → f_u60_10 k j l (l.length : Int) (i : Int) = some (tord (tpre l i) (l.drop i)) := by
  intro d
  induction d with
  | zero =>
    intro i j hi hj
    obtain ⟨j, rfl⟩ : ∃ q, j = q + 1 := ⟨j - 1, by omega⟩
    rw [f_u60_10, decide_eq_false (by omega : ¬ (i : Int) < (l.length : Int)), cond_false, List.drop_of_length_le (by omega)]
    cases tpre l i <;> rfl
  | succ d ih =>
    intro i j hi hj
    obtain ⟨j, rfl⟩ : ∃ q, j = q + 1 := ⟨j - 1, by omega⟩
    have hw : (i : Int) > 0 → IntKind.i64.wrap ((i : Int) - 1) = ((i - 1 : Nat) : Int) := fun h => by rw [wrap_id (by omega) (by omega)]; omega
    have h3 : (0 : Int) ≤ (i : Int) := by omega
    have h4 : (i : Int) < (l.length : Int) := by omega
    rw [f_u60_10, decide_eq_true h4, cond_true, if_pos ⟨fun _ => h3, fun _ => h4, fun h => by rw [hw (of_decide_eq_true h)]; omega, fun h => by rw [hw (of_decide_eq_true h)]; omega⟩, Int.toNat_natCast, wrapS i (by omega), ih (i + 1) j (by omega) (by omega), drop_cons' l i I.dflt (by omega)]
    have e1 : tpre l (i + 1) = some (l.getD i I.dflt) := by unfold tpre; rw [if_neg (by omega), Nat.add_sub_cancel]
    rw [e1]
    by_cases h : i = 0
    · subst h
      rw [show decide (((0 : Nat) : Int) > 0) = false from rfl, Bool.false_and, cond_false]
      rfl
    · rw [hw (by omega), decide_eq_true (by omega : (i : Int) > 0), Bool.true_and, Int.toNat_natCast]
      have e2 : tpre l i = some (l.getD (i - 1) I.dflt) := by unfold tpre; rw [if_neg h]
      rw [e2, tord]
      cases decide (l.getD i I.dflt ≤ l.getD (i - 1) I.dflt) <;> rfl
theorem turns_4 (k : Nat) (l : List Int) (hl : l.length ≤ 512) : ∀ (d i j : Nat), i + d = l.length → d + 600 < j → f_u60_4 k j l l (l.length : Int) (i : Int) = some (if (l.drop i).any tBad = true then 1 else tord none l) := by
  intro d
  induction d with
  | zero =>
    intro i j hi hj
    obtain ⟨j, rfl⟩ : ∃ q, j = q + 1 := ⟨j - 1, by omega⟩
    rw [f_u60_4, decide_eq_false (by omega : ¬ (i : Int) < (l.length : Int)), cond_false, List.drop_of_length_le (by omega), if_neg (fun h => by cases h)]
    exact turns_10 k l hl l.length 0 j (by omega) (by omega)
  | succ d ih =>
    intro i j hi hj
    obtain ⟨j, rfl⟩ : ∃ q, j = q + 1 := ⟨j - 1, by omega⟩
    rw [f_u60_4, decide_eq_true (by omega : (i : Int) < (l.length : Int)), cond_true, if_pos ⟨by omega, by omega⟩, Int.toNat_natCast, wrapS i (by omega), ih (i + 1) j (by omega) (by omega), drop_cons' l i I.dflt (by omega), List.any_cons]
    show (bif tBad (l.getD i I.dflt) then _ else _) = _
    cases tBad (l.getD i I.dflt)
    · rw [cond_false, Bool.false_or]
    · rw [cond_true, Bool.true_or, if_pos rfl]
theorem checkTurns_s (k : Nat) (hk : 1200 ≤ k) (l : List Int) : f_u60 k l = some (turnE l) := by
  unfold f_u60 turnE
  by_cases h : l.length > 512
  · rw [if_pos h, decide_eq_true (by omega : (l.length : Int) > 512), cond_true]
  · rw [if_neg h, decide_eq_false (by omega : ¬ (l.length : Int) > 512), cond_false]
    exact turns_4 k l (by omega) l.length 0 k (by omega) (by omega)
theorem checkTurns_v (k : Nat) (hk : 1200 ≤ k) (l : List Int) : v_u60 k l = turnE l := by
  unfold v_u60; rw [checkTurns_s k hk]; rfl
theorem turnups_9 (k : Nat) (l : List Int) (hl : l.length ≤ 512) : ∀ (d i j : Nat), i + d = l.length → 0 < i → d < j → f_u51_9 k j l (i : Int) = some (tord (some (l.getD (i - 1) I.dflt)) (l.drop i)) := by
  intro d
  induction d with
  | zero =>
    intro i j hi h0 hj
    obtain ⟨j, rfl⟩ : ∃ q, j = q + 1 := ⟨j - 1, by omega⟩
    rw [f_u51_9, decide_eq_false (by omega : ¬ (i : Int) < (l.length : Int)), cond_false, List.drop_of_length_le (by omega)]; rfl
  | succ d ih =>
    intro i j hi h0 hj
    obtain ⟨j, rfl⟩ : ∃ q, j = q + 1 := ⟨j - 1, by omega⟩
    have hw : IntKind.i64.wrap ((i : Int) - 1) = ((i - 1 : Nat) : Int) := by rw [wrap_id (by omega) (by omega)]; omega
    rw [f_u51_9, decide_eq_true (by omega : (i : Int) < (l.length : Int)), cond_true, hw, if_pos ⟨by omega, by omega, by omega, by omega⟩, Int.toNat_natCast, Int.toNat_natCast, wrapS i (by omega), ih (i + 1) j (by omega) (by omega) (by omega), drop_cons' l i I.dflt (by omega), tord, Nat.add_sub_cancel]
    cases decide (l.getD i I.dflt ≤ l.getD (i - 1) I.dflt) <;> rfl
theorem turnups_4 (k : Nat) (l : List Int) (hl : l.length ≤ 512) : ∀ (d i j : Nat), i + d = l.length → d + 600 < j → f_u51_4 k j l (i : Int) = some (if (l.drop i).any tBad = true then 1 else tord none l) := by
  intro d
  induction d with
  | zero =>
    intro i j hi hj
    obtain ⟨j, rfl⟩ : ∃ q, j = q + 1 := ⟨j - 1, by omega⟩
    rw [f_u51_4, decide_eq_false (by omega : ¬ (i : Int) < (l.length : Int)), cond_false, List.drop_of_length_le (by omega), if_neg (fun h => by cases h)]
    cases l with
    | nil =>
      obtain ⟨j, rfl⟩ : ∃ q, j = q + 1 := ⟨j - 1, by omega⟩
      rw [f_u51_9]; rfl
    | cons x t =>
      have := turnups_9 k (x :: t) hl t.length 1 j (by rw [List.length_cons]; omega) (by omega) (by rw [List.length_cons] at hl; omega)
      exact this
  | succ d ih =>
    intro i j hi hj
    obtain ⟨j, rfl⟩ : ∃ q, j = q + 1 := ⟨j - 1, by omega⟩
    rw [f_u51_4, decide_eq_true (by omega : (i : Int) < (l.length : Int)), cond_true, if_pos ⟨by omega, by omega, fun _ => by omega, fun _ => by omega⟩, Int.toNat_natCast, wrapS i (by omega), ih (i + 1) j (by omega) (by omega), drop_cons' l i I.dflt (by omega), List.any_cons]
    show (bif tBad (l.getD i I.dflt) then _ else _) = _
    cases tBad (l.getD i I.dflt)
    · rw [cond_false, Bool.false_or]
    · rw [cond_true, Bool.true_or, if_pos rfl]
theorem turnups_s (k : Nat) (hk : 1200 ≤ k) (l : List Int) : f_u51 k l = some (turnE l) := by
  unfold f_u51 turnE
  by_cases h : l.length > 512
  · rw [if_pos h, decide_eq_true (by omega : (l.length : Int) > 512), cond_true]
  · rw [if_neg h, decide_eq_false (by omega : ¬ (l.length : Int) > 512), cond_false]
    exact turnups_4 k l (by omega) l.length 0 k (by omega) (by omega)
theorem turnups_v (k : Nat) (hk : 1200 ≤ k) (l : List Int) : v_u51 k l = turnE l := by
  unfold v_u51; rw [turnups_s k hk]; rfl
theorem turnE_zero {l : List Int} (h : turnE l = 0) : l.length ≤ 512 ∧ ∀ x ∈ l, 0 ≤ x ∧ x ≤ 17179869184 := by
  unfold turnE at h
  by_cases h1 : l.length > 512
  · rw [if_pos h1] at h; cases h
  · rw [if_neg h1] at h
    by_cases h2 : l.any tBad = true
    · rw [if_pos h2] at h; cases h
    · refine ⟨by omega, fun x hx => ?_⟩
      have h3 : tBad x = false := by
        cases h4 : tBad x
        · rfl
        · exact absurd (List.any_eq_true.2 ⟨x, hx, h4⟩) h2
      unfold tBad at h3
      simp only [Bool.or_eq_false_iff, decide_eq_false_iff_not] at h3
      omega

/-! ### stretches: the reference -/
/-- the state ahead of a section: what is out, and whether a stretch is open (its phase) -/
def opn (l : List Sct) (i : Nat) : Option Int := if i = 0 then none else bif (l.getD (i - 1) T2.dflt).2.2.1 == 3 then none else some (l.getD (i - 1) T2.dflt).2.2.2.2
/-- the rest of the stretches, from what is out -/
def rstS (o : Option Int) (out : List (Int × Int)) (l : List Sct) : List (Int × Int) := match o with
  | none => out ++ strGo none l
  | some p => out.dropLast ++ strGo (some ((out.getD (out.length - 1) (0, 0)).1, (out.getD (out.length - 1) (0, 0)).2, p)) l
theorem opn_none {l : List Sct} {i : Nat} (h : opn l i = none) : i = 0 ∨ (l.getD (i - 1) T2.dflt).2.2.1 = 3 := by
  unfold opn at h
  by_cases h0 : i = 0
  · exact .inl h0
  · rw [if_neg h0] at h
    cases e : ((l.getD (i - 1) T2.dflt).2.2.1 == 3)
    · rw [e] at h; cases h
    · exact .inr (by simpa using e)
theorem opn_some {l : List Sct} {i : Nat} {p : Int} (h : opn l i = some p) : i ≠ 0 ∧ (l.getD (i - 1) T2.dflt).2.2.1 ≠ 3 ∧ (l.getD (i - 1) T2.dflt).2.2.2.2 = p := by
  unfold opn at h
  by_cases h0 : i = 0
  · rw [if_pos h0] at h; cases h
  · rw [if_neg h0] at h
    cases e : ((l.getD (i - 1) T2.dflt).2.2.1 == 3)
    · rw [e, cond_false] at h
      exact ⟨h0, by simpa using e, Option.some.inj h⟩
    · rw [e] at h; cases h
theorem last_split (out : List (Int × Int)) (h : out ≠ []) : out.dropLast ++ [out.getD (out.length - 1) (0, 0)] = out := by
  have h1 := List.dropLast_concat_getLast h
  rw [List.getLast_eq_getElem] at h1
  have hl : out.length - 1 < out.length := by
    have := List.length_pos_iff.2 h; omega
  rw [show out.getD (out.length - 1) (0, 0) = out[out.length - 1] by simp [List.getD_eq_getElem?_getD, List.getElem?_eq_getElem hl]]
  exact h1
theorem set_last (out : List (Int × Int)) (h : out ≠ []) (x : Int × Int) : out.set (out.length - 1) x = out.dropLast ++ [x] := by
  have hs := last_split out h
  have hl := List.length_pos_iff.2 h
  have hd : out.dropLast.length = out.length - 1 := List.length_dropLast
  generalize hq : out.getD (out.length - 1) (0, 0) = q at hs
  generalize hp : out.dropLast = p at hs hd ⊢
  rw [← hd]
  subst hs
  rw [List.set_append_right _ _ (Nat.le_refl _), Nat.sub_self]
  rfl
theorem getD_snoc (p : List (Int × Int)) (x : Int × Int) : (p ++ [x]).getD ((p ++ [x]).length - 1) (0, 0) = x := by
  simp
theorem stretches_3 (k : Nat) (l : List Sct) (hl : l.length ≤ 512) : ∀ (d i j : Nat) (out : List (Int × Int)), i + d = l.length → d < j → out.length ≤ i → (∀ p, opn l i = some p → out ≠ []) →
    f_u49_3 k j l (i : Int) out = some (rstS (opn l i) out (l.drop i)) := by
  intro d
  induction d with
  | zero =>
    intro i j out hi hj ho hn
    obtain ⟨j, rfl⟩ : ∃ q, j = q + 1 := ⟨j - 1, by omega⟩
    rw [f_u49_3, decide_eq_false (by omega : ¬ (i : Int) < (l.length : Int)), cond_false, List.drop_of_length_le (by omega)]
    cases hc : opn l i with
    | none => show some out = some (out ++ []); rw [List.append_nil]
    | some p =>
      show some out = some (out.dropLast ++ [_])
      rw [last_split out (hn p hc)]
  | succ d ih =>
    intro i j out hi hj ho hn
    obtain ⟨j, rfl⟩ : ∃ q, j = q + 1 := ⟨j - 1, by omega⟩
    have h3 : (0 : Int) ≤ (i : Int) := by omega
    have h4 : (i : Int) < (l.length : Int) := by omega
    have hw : (i : Int) > 0 → IntKind.i64.wrap ((i : Int) - 1) = ((i - 1 : Nat) : Int) := fun h => by rw [wrap_id (by omega) (by omega)]; omega
    have g1 : decide ((i : Int) > 0) = true → (0 : Int) ≤ IntKind.i64.wrap ((i : Int) - 1) := fun h => by rw [hw (of_decide_eq_true h)]; omega
    have g2 : decide ((i : Int) > 0) = true → IntKind.i64.wrap ((i : Int) - 1) < (l.length : Int) := fun h => by rw [hw (of_decide_eq_true h)]; omega
    have and1 : ∀ {a b : Bool}, (a && b) = true → a = true := fun {a b} h => (Bool.and_eq_true_iff.1 h).1
    rw [f_u49_3, decide_eq_true h4, cond_true, if_pos ⟨h3, h4⟩, Int.toNat_natCast, wrapS i (by omega), drop_cons' l i T2.dflt (by omega)]
    have o1 : opn l (i + 1) = bif (l.getD i T2.dflt).2.2.1 == 3 then none else some (l.getD i T2.dflt).2.2.2.2 := by unfold opn; rw [if_neg (by omega), Nat.add_sub_cancel]
    cases hx : ((l.getD i T2.dflt).2.2.1 == (3 : Int))
    · have hx' : (l.getD i T2.dflt).2.2.1 ≠ 3 := by simpa using hx
      rw [hx, cond_false] at o1
      rw [cond_false, if_pos ⟨g1, g2, fun h => g1 (and1 h), fun h => g2 (and1 h), fun _ => h3, fun _ => h4⟩]
      have hb : (decide ((i : Int) > (0 : Int)) && (l.getD (IntKind.i64.wrap ((i : Int) - (1 : Int))).toNat T2.dflt).2.2.1 != (3 : Int) && (l.getD (IntKind.i64.wrap ((i : Int) - (1 : Int))).toNat T2.dflt).2.2.2.2 == (l.getD i T2.dflt).2.2.2.2) = (match opn l i with | none => false | some p => p == (l.getD i T2.dflt).2.2.2.2) := by
        cases hc : opn l i with
        | none =>
          rcases opn_none hc with h | h
          · subst h; rfl
          · by_cases h0 : i = 0
            · subst h0; rfl
            · rw [hw (by omega), Int.toNat_natCast, h]
              simp
        | some p =>
          obtain ⟨h0, h1, h2⟩ := opn_some hc
          rw [hw (by omega), Int.toNat_natCast, decide_eq_true (by omega : (i : Int) > 0), h2]
          have : ((l.getD (i - 1) T2.dflt).2.2.1 != (3 : Int)) = true := by simpa using h1
          rw [this]; rfl
      rw [hb]
      cases hc : opn l i with
      | none =>
        show (if _ then _ else _) = _
        rw [if_pos ⟨h3, h4, h3, h4, by simp only [List.length_singleton]; omega⟩, ih (i + 1) j _ (by omega) (by omega) (by simp; omega) (fun _ _ => by simp), o1]
        show some ((out ++ [_]).dropLast ++ strGo (some (((out ++ [_]).getD _ (0, 0)).1, ((out ++ [_]).getD _ (0, 0)).2, _)) _) = some (out ++ strGo none (_ :: _))
        rw [getD_snoc, List.dropLast_concat, strGo_none _ _ hx']
      | some p =>
        have hne := hn p hc
        have hlp := List.length_pos_iff.2 hne
        show (bif p == (l.getD i T2.dflt).2.2.2.2 then _ else _) = _
        cases hp : (p == (l.getD i T2.dflt).2.2.2.2)
        · have hp' : ¬ (l.getD i T2.dflt).2.2.2.2 = p := fun h => by rw [h] at hp; simp at hp
          rw [cond_false, if_pos ⟨h3, h4, h3, h4, by simp only [List.length_singleton]; omega⟩, ih (i + 1) j _ (by omega) (by omega) (by simp; omega) (fun _ _ => by simp), o1]
          show some ((out ++ [_]).dropLast ++ strGo (some (((out ++ [_]).getD _ (0, 0)).1, ((out ++ [_]).getD _ (0, 0)).2, _)) _) = some (out.dropLast ++ strGo (some _) (_ :: _))
          rw [getD_snoc, List.dropLast_concat, strGo_end _ (l.getD i T2.dflt :: _) (fun x t e h => by cases e; exact hp' h.2), strGo_none _ _ hx']
          show _ = some (out.dropLast ++ ([out.getD (out.length - 1) (0, 0)] ++ _))
          rw [← List.append_assoc, last_split out hne]
        · have hp' : (l.getD i T2.dflt).2.2.2.2 = p := by have := (beq_iff_eq.1 hp); exact this.symm
          have hwl : IntKind.i64.wrap ((out.length : Int) - 1) = ((out.length - 1 : Nat) : Int) := by rw [wrap_id (by omega) (by omega)]; omega
          rw [cond_true, hwl, if_pos ⟨h3, h4, by omega, by omega⟩, Int.toNat_natCast, set_last out hne, ih (i + 1) j _ (by omega) (by omega) (by simp; omega) (fun _ _ => by simp), o1]
          show some ((out.dropLast ++ [_]).dropLast ++ strGo (some (((out.dropLast ++ [_]).getD _ (0, 0)).1, ((out.dropLast ++ [_]).getD _ (0, 0)).2, _)) _) = some (out.dropLast ++ strGo (some _) (_ :: _))
          rw [getD_snoc, List.dropLast_concat, strGo_on _ _ _ hx' hp', hp']
          rfl
    · have hx' : (l.getD i T2.dflt).2.2.1 = 3 := by simpa using hx
      rw [hx, cond_true] at o1
      rw [cond_true, ih (i + 1) j out (by omega) (by omega) (by omega) (fun p h => by rw [o1] at h; cases h), o1]
      cases hc : opn l i with
      | none => show some (out ++ _) = some (out ++ strGo none (_ :: _)); rw [strGo_lost _ _ hx']
      | some p =>
        show some (out ++ _) = some (out.dropLast ++ strGo (some _) (_ :: _))
        rw [strGo_end _ _ (fun x t e h => by cases e; exact h.1 hx'), strGo_lost _ _ hx']
        show _ = some (out.dropLast ++ ([out.getD (out.length - 1) (0, 0)] ++ _))
        rw [← List.append_assoc, last_split out (hn p hc)]
theorem stretches_s (k : Nat) (hk : 600 ≤ k) (l : List Sct) (hl : l.length ≤ 512) : f_u49 k l = some (strGo none l) := by
  unfold f_u49
  have := stretches_3 k l hl l.length 0 k [] (by omega) (by omega) (by simp) (fun p h => by cases h)
  rw [show ((0 : Nat) : Int) = 0 from rfl] at this
  rw [this]; rfl
theorem stretches_v (k : Nat) (hk : 600 ≤ k) (l : List Sct) (hl : l.length ≤ 512) : v_u49 k l = strGo none l := by
  unfold v_u49; rw [stretches_s k hk l hl]; rfl
end Go.AM
namespace Go.AM
open Go Go.Proofs
noncomputable section
abbrev R_u46 : Type := Int
def res_u46 (r : R_u46) : AV := .r (.v (.int .i64 r))
def bo_u46 (l_ : List (T2).T) (r : R_u46) : List (Nat × Blk) := []
def args_u46 (l_ : List (T2).T) : List AV := [.r (.ro T2 l_)]
def bin_u46 (l_ : List (T2).T) : List Blk := []
abbrev C_u46 (l_ : List (T2).T) (r : R_u46) : Prop := CC Tryz.prog 38 (args_u46 l_) (bin_u46 l_) (res_u46 r) (bo_u46 l_ r)
def st_u46_4 (y0 : List (T2).T) (y1 : Int) : St := ⟨mkS 106 [(0, .r (.ro T2 y0)), (3, .r (.v (.int .i64 y1)))], []⟩
def st_u46_16 (y0 : List (T2).T) (y1 : Int) : St := ⟨mkS 106 [(0, .r (.ro T2 y0)), (5, .r (.v (.int .i64 y1)))], []⟩
mutual
def f_u46_4 (k : Nat) : Nat → List (T2).T → Int → Option R_u46
  | 0, _, _ => none
  | j + 1, y0, y1 =>
  bif (decide (y1 < (↑y0.length : Int))) then
  if (0 ≤ y1) ∧ (y1 < (↑y0.length : Int)) then
  bif (decide ((y0.getD y1.toNat T2.dflt).1 < (0 : Int)) || decide ((y0.getD y1.toNat T2.dflt).1 ≥ (y0.getD y1.toNat T2.dflt).2.1) || decide ((y0.getD y1.toNat T2.dflt).2.1 > (17179869184 : Int))) then
  some 1
  else
  bif (decide ((y0.getD y1.toNat T2.dflt).2.2.1 < (1 : Int)) || decide ((y0.getD y1.toNat T2.dflt).2.2.1 > (3 : Int))) then
  some 17
  else
  bif (decide ((y0.getD y1.toNat T2.dflt).2.2.2.1 < (-1 : Int)) || decide ((y0.getD y1.toNat T2.dflt).2.2.2.1 ≥ (16 : Int))) then
  some 22
  else
  bif (decide ((y0.getD y1.toNat T2.dflt).2.2.2.2 < (0 : Int)) || decide ((y0.getD y1.toNat T2.dflt).2.2.2.2 > (2048 : Int))) then
  some 1
  else
  f_u46_4 k j y0 ((IntKind.i64.wrap (y1 + 1)))
  else none
  else
  f_u46_16 k j y0 0
def f_u46_16 (k : Nat) : Nat → List (T2).T → Int → Option R_u46
  | 0, _, _ => none
  | j + 1, y0, y1 =>
  bif (decide (y1 < (↑y0.length : Int))) then
  if ((y1 == (0 : Int)) = true → 0 ≤ y1) ∧ ((y1 == (0 : Int)) = true → y1 < (↑y0.length : Int)) ∧ ((y1 == (0 : Int) && (y0.getD y1.toNat T2.dflt).1 != (0 : Int)) = false → decide (y1 > (0 : Int)) = true → 0 ≤ y1) ∧ ((y1 == (0 : Int) && (y0.getD y1.toNat T2.dflt).1 != (0 : Int)) = false → decide (y1 > (0 : Int)) = true → y1 < (↑y0.length : Int)) ∧ ((y1 == (0 : Int) && (y0.getD y1.toNat T2.dflt).1 != (0 : Int)) = false → decide (y1 > (0 : Int)) = true → (0 : Int) ≤ IntKind.i64.wrap (y1 - (1 : Int))) ∧ ((y1 == (0 : Int) && (y0.getD y1.toNat T2.dflt).1 != (0 : Int)) = false → decide (y1 > (0 : Int)) = true → IntKind.i64.wrap (y1 - (1 : Int)) < (↑y0.length : Int)) ∧ ((y1 == (0 : Int) && (y0.getD y1.toNat T2.dflt).1 != (0 : Int)) = false → decide (y1 > (0 : Int)) = true → ((y0.getD y1.toNat T2.dflt).1 != (y0.getD (IntKind.i64.wrap (y1 - (1 : Int))).toNat T2.dflt).2.1) = false → 0 ≤ y1) ∧ ((y1 == (0 : Int) && (y0.getD y1.toNat T2.dflt).1 != (0 : Int)) = false → decide (y1 > (0 : Int)) = true → ((y0.getD y1.toNat T2.dflt).1 != (y0.getD (IntKind.i64.wrap (y1 - (1 : Int))).toNat T2.dflt).2.1) = false → y1 < (↑y0.length : Int)) ∧ ((y1 == (0 : Int) && (y0.getD y1.toNat T2.dflt).1 != (0 : Int)) = false → decide (y1 > (0 : Int)) = true → ((y0.getD y1.toNat T2.dflt).1 != (y0.getD (IntKind.i64.wrap (y1 - (1 : Int))).toNat T2.dflt).2.1) = false → (0 : Int) ≤ IntKind.i64.wrap (y1 - (1 : Int))) ∧ ((y1 == (0 : Int) && (y0.getD y1.toNat T2.dflt).1 != (0 : Int)) = false → decide (y1 > (0 : Int)) = true → ((y0.getD y1.toNat T2.dflt).1 != (y0.getD (IntKind.i64.wrap (y1 - (1 : Int))).toNat T2.dflt).2.1) = false → IntKind.i64.wrap (y1 - (1 : Int)) < (↑y0.length : Int)) then
  bif (y1 == (0 : Int) && (y0.getD y1.toNat T2.dflt).1 != (0 : Int) || decide (y1 > (0 : Int)) && ((y0.getD y1.toNat T2.dflt).1 != (y0.getD (IntKind.i64.wrap (y1 - (1 : Int))).toNat T2.dflt).2.1 || decide ((y0.getD y1.toNat T2.dflt).2.2.2.2 < (y0.getD (IntKind.i64.wrap (y1 - (1 : Int))).toNat T2.dflt).2.2.2.2))) then
  some 9
  else
  f_u46_16 k j y0 ((IntKind.i64.wrap (y1 + 1)))
  else none
  else
  some 0
end
def f_u46 (k : Nat) (l_ : List (T2).T) : Option R_u46 :=
  bif (decide ((↑l_.length : Int) > (512 : Int))) then
  some 8
  else
  f_u46_4 k k l_ 0
def v_u46 (k : Nat) (l_ : List (T2).T) : R_u46 := (f_u46 k l_).getD 0
def ke_u46 (k : Nat) : Ke := (38, fun xs => match xs with
  | [_] => some [false]
  | _ => none, fun xs bs => match xs, bs with
  | [.r (.ro tl__ ql_)], [] => (castL tl__ T2 ql_).bind fun l_ => some (.one (res_u46 (v_u46 k l_), bo_u46 l_ (v_u46 k l_)))
  | _, _ => none)
def cs_u46 : List (Nat × List Cmd) := [(4, [.autoB [0, 3] false []]), (16, [.autoB [0, 5] false []])]
abbrev E_u46 (l_ : List (T2).T) (todo : List Item) (st : St) (o : Option R_u46) : Prop := ∀ r, o = some r → Ev Tryz.prog Tryz.f38 0 todo st (res_u46 r) (bo_u46 l_ r)
theorem ev_u46 (k : Nat) (l_ : List (T2).T) : ∀ j, (∀ (y0 : List (T2).T) (y1 : Int), E_u46 l_ (placeAt Tryz.f38 4) (st_u46_4 y0 y1) (f_u46_4 k j y0 y1)) ∧ (∀ (y0 : List (T2).T) (y1 : Int), E_u46 l_ (placeAt Tryz.f38 16) (st_u46_16 y0 y1) (f_u46_16 k j y0 y1))
  | 0 => ⟨fun _ _ _ h => (nomatch h), fun _ _ _ h => (nomatch h)⟩
  | j + 1 => by
    have ih := @ev_u46 k l_ j
    refine ⟨?_, ?_⟩
    · intro y0 y1 r h
      rw [f_u46_4] at h
      exact go (mkK []) [] cs_u46 [.autoB [2] true []] (gT h (fun c h => gN2 h fun h => gT h (fun c h => gL h) fun c h => gT h (fun c h => gL h) fun c h => gT h (fun c h => gL h) fun c h => gT h (fun c h => gL h) fun c h => gC h 4 (ih.1 _ _ _)) fun c h => gC h 16 (ih.2 _ _ _)) (by kernel_rfl)
    · intro y0 y1 r h
      rw [f_u46_16] at h
      exact go (mkK []) [] cs_u46 [.autoB [2] true []] (gT h (fun c h => gN h (fun q => conjC q.1 (conjC q.2.1 (conjC q.2.2.1 (conjC q.2.2.2.1 (conjC q.2.2.2.2.1 (conjC q.2.2.2.2.2.1 (conjC q.2.2.2.2.2.2.1 (conjC q.2.2.2.2.2.2.2.1 (conjC q.2.2.2.2.2.2.2.2.1 (conjC q.2.2.2.2.2.2.2.2.2 conj0)))))))))) fun h => gT h (fun c h => gL h) fun c h => gC h 16 (ih.2 _ _ _)) fun c h => gL h) (by kernel_rfl)
theorem of_u46 (k : Nat) (l_ : List (T2).T) (r : R_u46) (h : f_u46 k l_ = some r) : C_u46 l_ r := by
  refine CC.of (fn := Tryz.f38) (by kernel_rfl) (by kernel_rfl) (by kernel_rfl) (by kernel_rfl) ?_
  unfold f_u46 at h
  exact go (mkK []) [] cs_u46 [.autoB [2] true []] (gT h (fun c h => gL h) fun c h => gC h 4 ((ev_u46 k l_ k).1 _ _ _)) (by kernel_rfl)
theorem cc_u46 {k : Nat} {l_ : List (T2).T} (h : (f_u46 k l_).isSome = true) : C_u46 l_ (v_u46 k l_) := ccG (Φ := C_u46 l_) h (of_u46 k l_)
abbrev R_u47 : Type := List (T21).T × List (T21).T × Int
def res_u47 (r : R_u47) : AV := .tup [.r (.ro T21 r.1), .r (.ro T21 r.2.1), .r (.v (.int .i64 r.2.2))]
def bo_u47 (t_ : List (T2).T) (o_ : List (I).T) (A_ : Int) (r : R_u47) : List (Nat × Blk) := []
def args_u47 (t_ : List (T2).T) (o_ : List (I).T) (A_ : Int) : List AV := [.r (.ro T2 t_), .r (.ro I o_), .r (.v (.int .i64 A_))]
def bin_u47 (t_ : List (T2).T) (o_ : List (I).T) (A_ : Int) : List Blk := []
abbrev C_u47 (t_ : List (T2).T) (o_ : List (I).T) (A_ : Int) (r : R_u47) : Prop := CC Tryz.prog 40 (args_u47 t_ o_ A_) (bin_u47 t_ o_ A_) (res_u47 r) (bo_u47 t_ o_ A_ r)
def st_u47_12 (y0 : List (I).T) (y1 : Int) (y2 : List (T21).T) (y3 : Int) (y4 : List (T21).T) (y5 : List (T21).T) : St := ⟨mkS 130 [(1, .r (.ro I y0)), (2, .r (.v (.int .i64 y1))), (11, .own 1000000 0), (12, .own 1000001 0), (13, .r (.ro T21 y2)), (14, .r (.v (.int .i64 y3)))], [(1000000, 0, .row 91 T21 y4), (1000001, 0, .row 91 T21 y5)]⟩
def st_u47_16 (y0 : List (I).T) (y1 : Int) (y2 : List (T21).T) (y3 : Int) (y4 : Int) (y5 : List (T21).T) (y6 : List (T21).T) (y7 : List (I).T) : St := ⟨mkS 130 [(1, .r (.ro I y0)), (2, .r (.v (.int .i64 y1))), (11, .own 1000000 0), (12, .own 1000001 0), (13, .r (.ro T21 y2)), (14, .r (.v (.int .i64 y3))), (15, .own 1000002 0), (16, .r (.v (.int .i64 y4)))], [(1000000, 0, .row 91 T21 y5), (1000001, 0, .row 91 T21 y6), (1000002, 0, .row 3 I y7)]⟩
def st_u47_23 (y0 : List (I).T) (y1 : Int) (y2 : List (T21).T) (y3 : Int) (y4 : Int) (y5 : Int) (y6 : List (T21).T) (y7 : List (T21).T) (y8 : List (I).T) : St := ⟨mkS 130 [(1, .r (.ro I y0)), (2, .r (.v (.int .i64 y1))), (11, .own 1000000 0), (12, .own 1000001 0), (13, .r (.ro T21 y2)), (14, .r (.v (.int .i64 y3))), (15, .own 1000002 0), (17, .r (.v (.int .i64 y4))), (18, .r (.v (.int .i64 y5)))], [(1000000, 0, .row 91 T21 y6), (1000001, 0, .row 91 T21 y7), (1000002, 0, .row 3 I y8)]⟩
mutual
def f_u47_12 (k : Nat) : Nat → List (I).T → Int → List (T21).T → Int → List (T21).T → List (T21).T → Option R_u47
  | 0, _, _, _, _, _, _ => none
  | j + 1, y0, y1, y2, y3, y4, y5 =>
  bif (decide (y3 < (↑y2.length : Int))) then
  f_u47_16 k j y0 y1 y2 y3 0 y4 y5 ([])
  else
  some ((y4, y5, 0))
def f_u47_16 (k : Nat) : Nat → List (I).T → Int → List (T21).T → Int → Int → List (T21).T → List (T21).T → List (I).T → Option R_u47
  | 0, _, _, _, _, _, _, _, _ => none
  | j + 1, y0, y1, y2, y3, y4, y5, y6, y7 =>
  bif (decide (y4 < (↑y0.length : Int))) then
  if (0 ≤ y4) ∧ (y4 < (↑y0.length : Int)) ∧ (0 ≤ y3) ∧ (y3 < (↑y2.length : Int)) ∧ (decide (y0.getD y4.toNat I.dflt > (y2.getD y3.toNat T21.dflt).1) = true → 0 ≤ y4) ∧ (decide (y0.getD y4.toNat I.dflt > (y2.getD y3.toNat T21.dflt).1) = true → y4 < (↑y0.length : Int)) ∧ (decide (y0.getD y4.toNat I.dflt > (y2.getD y3.toNat T21.dflt).1) = true → 0 ≤ y3) ∧ (decide (y0.getD y4.toNat I.dflt > (y2.getD y3.toNat T21.dflt).1) = true → y3 < (↑y2.length : Int)) then
  bif (decide (y0.getD y4.toNat I.dflt > (y2.getD y3.toNat T21.dflt).1) && decide (y0.getD y4.toNat I.dflt < (y2.getD y3.toNat T21.dflt).2)) then
  if (0 ≤ y4) ∧ (y4 < (↑y0.length : Int)) ∧ ((y7.length + [y0.getD y4.toNat I.dflt].length) * (8 : Nat) ≤ (140737488355328 : Nat)) then
  f_u47_16 k j y0 y1 y2 y3 ((IntKind.i64.wrap (y4 + 1))) y5 y6 ((y7 ++ [y0.getD y4.toNat I.dflt]))
  else none
  else
  f_u47_16 k j y0 y1 y2 y3 ((IntKind.i64.wrap (y4 + 1))) y5 y6 y7
  else none
  else
  if (0 ≤ y3) ∧ (y3 < (↑y2.length : Int)) ∧ ((y7.length + [(y2.getD y3.toNat T21.dflt).2].length) * (8 : Nat) ≤ (140737488355328 : Nat)) then
  if (0 ≤ y3) ∧ (y3 < (↑y2.length : Int)) then
  f_u47_23 k j y0 y1 y2 y3 ((y2.getD y3.toNat T21.dflt).1) 0 y5 y6 ((y7 ++ [(y2.getD y3.toNat T21.dflt).2]))
  else none
  else none
def f_u47_23 (k : Nat) : Nat → List (I).T → Int → List (T21).T → Int → Int → Int → List (T21).T → List (T21).T → List (I).T → Option R_u47
  | 0, _, _, _, _, _, _, _, _, _ => none
  | j + 1, y0, y1, y2, y3, y4, y5, y6, y7, y8 =>
  bif (decide (y5 < (↑y8.length : Int))) then
  if (0 ≤ y5) ∧ (y5 < (↑y8.length : Int)) then
  bif (decide (IntKind.i64.wrap (y8.getD y5.toNat I.dflt - y4) ≥ y1)) then
  if (0 ≤ y5) ∧ (y5 < (↑y8.length : Int)) ∧ ((y6.length + [(y4, y8.getD y5.toNat I.dflt)].length) * (16 : Nat) ≤ (140737488355328 : Nat)) then
  if (0 ≤ y5) ∧ (y5 < (↑y8.length : Int)) then
  f_u47_23 k j y0 y1 y2 y3 ((y8.getD y5.toNat I.dflt)) ((IntKind.i64.wrap (y5 + 1))) ((y6 ++ [(y4, y8.getD y5.toNat I.dflt)])) y7 y8
  else none
  else none
  else
  if (0 ≤ y5) ∧ (y5 < (↑y8.length : Int)) ∧ ((y7.length + [(y4, y8.getD y5.toNat I.dflt)].length) * (16 : Nat) ≤ (140737488355328 : Nat)) then
  if (0 ≤ y5) ∧ (y5 < (↑y8.length : Int)) then
  f_u47_23 k j y0 y1 y2 y3 ((y8.getD y5.toNat I.dflt)) ((IntKind.i64.wrap (y5 + 1))) y6 ((y7 ++ [(y4, y8.getD y5.toNat I.dflt)])) y8
  else none
  else none
  else none
  else
  f_u47_12 k j y0 y1 y2 ((IntKind.i64.wrap (y3 + 1))) y6 y7
end
def f_u47 (k : Nat) (t_ : List (T2).T) (o_ : List (I).T) (A_ : Int) : Option R_u47 :=
  if ((f_u46 k t_).isSome = true) then
  bif (v_u46 k t_ != (0 : Int)) then
  some (([], [], v_u46 k t_))
  else
  bif (decide (A_ < (1 : Int)) || decide (A_ > (17179869184 : Int))) then
  some (([], [], 1))
  else
  if ((f_u51 k o_).isSome = true) then
  bif (v_u51 k o_ != (0 : Int)) then
  some (([], [], v_u51 k o_))
  else
  if ((f_u49 k t_).isSome = true) then
  f_u47_12 k k o_ A_ ((v_u49 k t_)) 0 ([]) ([])
  else none
  else none
  else none
def v_u47 (k : Nat) (t_ : List (T2).T) (o_ : List (I).T) (A_ : Int) : R_u47 := (f_u47 k t_ o_ A_).getD ([], [], 0)
def ke_u47 (k : Nat) : Ke := (40, fun xs => match xs with
  | [_, _, _] => some [false, false, false]
  | _ => none, fun xs bs => match xs, bs with
  | [.r (.ro tt__ qt_), .r (.ro to__ qo_), .r (.v (.int .i64 A_))], [] => (castL tt__ T2 qt_).bind fun t_ => (castL to__ I qo_).bind fun o_ => some (.one (res_u47 (v_u47 k t_ o_ A_), bo_u47 t_ o_ A_ (v_u47 k t_ o_ A_)))
  | _, _ => none)
def K_u47 (k : Nat) : Calld := mkK [ke_u46 k, ke_u51 k, ke_u49 k]
def cs_u47 : List (Nat × List Cmd) := [(12, [.row 11 91 T21, .row 12 91 T21, .autoB [1, 2, 11, 12, 13, 14] false []]), (16, [.autoB [1, 2, 11, 12, 13, 14, 15, 16] false []]), (23, [.row 11 91 T21, .row 12 91 T21, .autoB [1, 2, 11, 12, 13, 14, 15, 17, 18] false []])]
abbrev E_u47 (t_ : List (T2).T) (o_ : List (I).T) (A_ : Int) (todo : List Item) (st : St) (o : Option R_u47) : Prop := ∀ r, o = some r → Ev Tryz.prog Tryz.f40 0 todo st (res_u47 r) (bo_u47 t_ o_ A_ r)
theorem ev_u47 (k : Nat) (t_ : List (T2).T) (o_ : List (I).T) (A_ : Int) : ∀ j, (∀ (y0 : List (I).T) (y1 : Int) (y2 : List (T21).T) (y3 : Int) (y4 : List (T21).T) (y5 : List (T21).T), E_u47 t_ o_ A_ (placeAt Tryz.f40 12) (st_u47_12 y0 y1 y2 y3 y4 y5) (f_u47_12 k j y0 y1 y2 y3 y4 y5)) ∧ (∀ (y0 : List (I).T) (y1 : Int) (y2 : List (T21).T) (y3 : Int) (y4 : Int) (y5 : List (T21).T) (y6 : List (T21).T) (y7 : List (I).T), E_u47 t_ o_ A_ (placeAt Tryz.f40 16) (st_u47_16 y0 y1 y2 y3 y4 y5 y6 y7) (f_u47_16 k j y0 y1 y2 y3 y4 y5 y6 y7)) ∧ (∀ (y0 : List (I).T) (y1 : Int) (y2 : List (T21).T) (y3 : Int) (y4 : Int) (y5 : Int) (y6 : List (T21).T) (y7 : List (T21).T) (y8 : List (I).T), E_u47 t_ o_ A_ (placeAt Tryz.f40 23) (st_u47_23 y0 y1 y2 y3 y4 y5 y6 y7 y8) (f_u47_23 k j y0 y1 y2 y3 y4 y5 y6 y7 y8))
  | 0 => ⟨fun _ _ _ _ _ _ _ h => (nomatch h), fun _ _ _ _ _ _ _ _ _ h => (nomatch h), fun _ _ _ _ _ _ _ _ _ _ h => (nomatch h)⟩
  | j + 1 => by
    have ih := @ev_u47 k t_ o_ A_ j
    refine ⟨?_, ?_, ?_⟩
    · intro y0 y1 y2 y3 y4 y5 r h
      rw [f_u47_12] at h
      exact go (K_u47 k) [] cs_u47 [.frz 6 false (RTy.list T21), .frz 7 false (RTy.list T21), .autoB [6, 7, 8] true []] (gT h (fun c h => gC h 16 (ih.2.1 _ _ _ _ _ _ _ _ _)) fun c h => gL h) (by kernel_rfl)
    · intro y0 y1 y2 y3 y4 y5 y6 y7 r h
      rw [f_u47_16] at h
      exact go (K_u47 k) [] cs_u47 [.frz 6 false (RTy.list T21), .frz 7 false (RTy.list T21), .autoB [6, 7, 8] true []] (gT h (fun c h => gN h (fun q => conjC q.1 (conjC q.2.1 (conjC q.2.2.1 (conjC q.2.2.2.1 (conjC q.2.2.2.2.1 (conjC q.2.2.2.2.2.1 (conjC q.2.2.2.2.2.2.1 (conjC q.2.2.2.2.2.2.2 conj0)))))))) fun h => gT h (fun c h => gN h (fun q => conjC q.1 (conjC q.2.1 (conjC q.2.2 conj0))) fun h => gC h 16 (ih.2.1 _ _ _ _ _ _ _ _ _)) fun c h => gC h 16 (ih.2.1 _ _ _ _ _ _ _ _ _)) fun c h => gN h (fun q => conjC q.1 (conjC q.2.1 (conjC q.2.2 conj0))) fun h => gN2 h fun h => gC h 23 (ih.2.2 _ _ _ _ _ _ _ _ _ _)) (by kernel_rfl)
    · intro y0 y1 y2 y3 y4 y5 y6 y7 y8 r h
      rw [f_u47_23] at h
      exact go (K_u47 k) [] cs_u47 [.frz 6 false (RTy.list T21), .frz 7 false (RTy.list T21), .autoB [6, 7, 8] true []] (gT h (fun c h => gN2 h fun h => gT h (fun c h => gN h (fun q => conjC q.1 (conjC q.2.1 (conjC q.2.2 conj0))) fun h => gN2 h fun h => gC h 23 (ih.2.2 _ _ _ _ _ _ _ _ _ _)) fun c h => gN h (fun q => conjC q.1 (conjC q.2.1 (conjC q.2.2 conj0))) fun h => gN2 h fun h => gC h 23 (ih.2.2 _ _ _ _ _ _ _ _ _ _)) fun c h => gC h 12 (ih.1 _ _ _ _ _ _ _)) (by kernel_rfl)
theorem of_u47 (k : Nat) (t_ : List (T2).T) (o_ : List (I).T) (A_ : Int) (r : R_u47) (h : f_u47 k t_ o_ A_ = some r) : C_u47 t_ o_ A_ r := by
  refine CC.of (fn := Tryz.f40) (by kernel_rfl) (by kernel_rfl) (by kernel_rfl) (by kernel_rfl) ?_
  unfold f_u47 at h
  exact go (K_u47 k) [] cs_u47 [.frz 6 false (RTy.list T21), .frz 7 false (RTy.list T21), .autoB [6, 7, 8] true []] (gN1 h (fun q => cc_u46 q) fun h => gT h (fun c h => gL h) fun c h => gT h (fun c h => gL h) fun c h => gN1 h (fun q => cc_u51 q) fun h => gT h (fun c h => gL h) fun c h => gN1 h (fun q => cc_u49 q) fun h => gC h 12 ((ev_u47 k t_ o_ A_ k).1 _ _ _ _ _ _ _)) (by kernel_rfl)
theorem cc_u47 {k : Nat} {t_ : List (T2).T} {o_ : List (I).T} {A_ : Int} (h : (f_u47 k t_ o_ A_).isSome = true) : C_u47 t_ o_ A_ (v_u47 k t_ o_ A_) := ccG (Φ := C_u47 t_ o_ A_) h (of_u47 k t_ o_ A_)

end
/-! ### the reference's Cut -/
def inW (x : Int) : Prop := 0 ≤ x ∧ x ≤ 17179869184
theorem rc_16 (k : Nat) (turns : List Int) (least : Int) (str : List (Int × Int)) (n : Nat) (hn : n < str.length) (hs : str.length ≤ 100) (ht : turns.length ≤ 40) (r s : List (Int × Int)) :
    ∀ (d i j : Nat) (acc : List Int), i + d = turns.length → acc.length ≤ i →
      f_u47_16 k (d + 1 + j) turns least str (n : Int) (i : Int) r s acc = f_u47_23 k j turns least str (n : Int) (str.getD n (0, 0)).1 0 r s (acc ++ ((turns.drop i).filter (fun x => decide (x > (str.getD n (0, 0)).1) && decide (x < (str.getD n (0, 0)).2)) ++ [(str.getD n (0, 0)).2])) := by
  intro d
  induction d with
  | zero =>
    intro i j acc hi ha
    have h1 : (0 : Int) ≤ (n : Int) := by omega
    have h2 : (n : Int) < (str.length : Int) := by omega
    rw [show 0 + 1 + j = j + 1 by omega, f_u47_16, decide_eq_false (by omega : ¬ (i : Int) < (turns.length : Int)), cond_false, List.drop_of_length_le (by omega), if_pos ⟨h1, h2, by simp only [List.length_singleton]; omega⟩, if_pos ⟨h1, h2⟩, Int.toNat_natCast]
    rfl
  | succ d ih =>
    intro i j acc hi ha
    have h1 : (0 : Int) ≤ (n : Int) := by omega
    have h2 : (n : Int) < (str.length : Int) := by omega
    have h3 : (0 : Int) ≤ (i : Int) := by omega
    have h4 : (i : Int) < (turns.length : Int) := by omega
    rw [show d + 1 + 1 + j = (d + 1 + j) + 1 by omega, f_u47_16, decide_eq_true h4, cond_true, if_pos ⟨h3, h4, h1, h2, fun _ => h3, fun _ => h4, fun _ => h1, fun _ => h2⟩, Int.toNat_natCast, Int.toNat_natCast, wrapS i (by omega), drop_cons' turns i I.dflt (by omega), List.filter_cons]
    show (bif (decide (turns.getD i I.dflt > (str.getD n (0, 0)).1) && decide (turns.getD i I.dflt < (str.getD n (0, 0)).2)) then _ else _) = _
    cases (decide (turns.getD i I.dflt > (str.getD n (0, 0)).1) && decide (turns.getD i I.dflt < (str.getD n (0, 0)).2))
    · rw [cond_false, ih (i + 1) j acc (by omega) (by omega), if_neg (fun h => by cases h)]
    · rw [cond_true, if_pos ⟨h3, h4, by simp only [List.length_singleton]; omega⟩, ih (i + 1) j _ (by omega) (by simp; omega), if_pos rfl, List.append_assoc]
      rfl
theorem rc_23 (k : Nat) (turns : List Int) (least : Int) (str : List (Int × Int)) (n : Nat) (hs : str.length ≤ 100) (hn : n < str.length) (ends : List Int) (hel : ends.length ≤ 1000) (he : ∀ x ∈ ends, inW x) :
    ∀ (d i j : Nat) (z : Int) (r s : List (Int × Int)), i + d = ends.length → inW z → r.length + s.length + d ≤ 1000000 →
      f_u47_23 k (d + 1 + j) turns least str (n : Int) z (i : Int) r s ends = f_u47_12 k j turns least str ((n + 1 : Nat) : Int) (pcsS least (z, r, s) (ends.drop i)).2.1 (pcsS least (z, r, s) (ends.drop i)).2.2 := by
  intro d
  induction d with
  | zero =>
    intro i j z r s hi hz hl
    rw [show 0 + 1 + j = j + 1 by omega, f_u47_23, decide_eq_false (by omega : ¬ (i : Int) < (ends.length : Int)), cond_false, List.drop_of_length_le (by omega), wrapS n (by omega)]
    rfl
  | succ d ih =>
    intro i j z r s hi hz hl
    have h3 : (0 : Int) ≤ (i : Int) := by omega
    have h4 : (i : Int) < (ends.length : Int) := by omega
    have hx := he (ends.getD i I.dflt) (gdm _ _ _ (by omega))
    have hx1 := hx.1
    have hx2 := hx.2
    have hz1 := hz.1
    have hz2 := hz.2
    rw [show d + 1 + 1 + j = (d + 1 + j) + 1 by omega, f_u47_23, decide_eq_true h4, cond_true, if_pos ⟨h3, h4⟩, Int.toNat_natCast, wrapS i (by omega), wrap_id (by omega) (by omega), drop_cons' ends i I.dflt (by omega)]
    show _ = f_u47_12 k j turns least str _ (pcsS least (pcS least (z, r, s) (ends.getD i I.dflt)) (ends.drop (i + 1))).2.1 (pcsS least (pcS least (z, r, s) (ends.getD i I.dflt)) (ends.drop (i + 1))).2.2
    unfold pcS
    show (bif decide (ends.getD i I.dflt - z ≥ least) then _ else _) = f_u47_12 k j turns least str _ (pcsS least (bif decide (ends.getD i I.dflt - z ≥ least) then _ else _) (ends.drop (i + 1))).2.1 (pcsS least (bif decide (ends.getD i I.dflt - z ≥ least) then _ else _) (ends.drop (i + 1))).2.2
    cases decide (ends.getD i I.dflt - z ≥ least)
    · rw [cond_false, if_pos ⟨h3, h4, by simp only [List.length_singleton]; omega⟩, if_pos ⟨h3, h4⟩, ih (i + 1) j _ _ _ (by omega) hx (by simp; omega)]
      rfl
    · rw [cond_true, if_pos ⟨h3, h4, by simp only [List.length_singleton]; omega⟩, if_pos ⟨h3, h4⟩, ih (i + 1) j _ _ _ (by omega) hx (by simp; omega)]
      rfl
theorem rc_12 (k : Nat) (turns : List Int) (least : Int) (str : List (Int × Int)) (hs : str.length ≤ 100) (ht : turns.length ≤ 40) (hin : ∀ x ∈ turns, inW x) (hst : ∀ x ∈ str, inW x.1 ∧ inW x.2) :
    ∀ (d n j : Nat) (q : List (Int × Int) × List (Int × Int)), n + d = str.length → d * 90 < j → q.1.length + q.2.length + d * 41 ≤ 1000000 →
      f_u47_12 k j turns least str (n : Int) q.1 q.2 = some ((cutsS turns least q (str.drop n)).1, (cutsS turns least q (str.drop n)).2, 0) := by
  intro d
  induction d with
  | zero =>
    intro n j q hi hj hl
    obtain ⟨j, rfl⟩ : ∃ q, j = q + 1 := ⟨j - 1, by omega⟩
    rw [f_u47_12, decide_eq_false (by omega : ¬ (n : Int) < (str.length : Int)), cond_false, List.drop_of_length_le (by omega)]; rfl
  | succ d ih =>
    intro n j q hi hj hl
    obtain ⟨j, rfl⟩ : ∃ q, j = q + 1 := ⟨j - 1, by omega⟩
    have hm := gdm str n (0, 0) (by omega)
    have hx := hst _ hm
    have hel := endsS_len turns (str.getD n (0, 0))
    rw [f_u47_12, decide_eq_true (by omega : (n : Int) < (str.length : Int)), cond_true]
    have e1 := rc_16 k turns least str n (by omega) hs ht q.1 q.2 turns.length 0 (j - (turns.length + 1)) [] (by omega) (by simp)
    rw [show turns.length + 1 + (j - (turns.length + 1)) = j by omega] at e1
    rw [show ((0 : Nat) : Int) = 0 from rfl] at e1
    rw [e1, List.nil_append, List.drop_zero]
    show f_u47_23 k _ turns least str (n : Int) _ 0 q.1 q.2 (endsS turns (str.getD n (0, 0))) = _
    have e2 := rc_23 k turns least str n hs (by omega) (endsS turns (str.getD n (0, 0))) (by omega) (fun x hx' => by
      unfold endsS at hx'
      rcases List.mem_append.1 hx' with h | h
      · exact hin x (List.mem_filter.1 h).1
      · rw [List.mem_singleton] at h; rw [h]; exact hx.2) (endsS turns (str.getD n (0, 0))).length 0 (j - (turns.length + 1) - ((endsS turns (str.getD n (0, 0))).length + 1)) (str.getD n (0, 0)).1 q.1 q.2 (by omega) hx.1 (by omega)
    rw [show (endsS turns (str.getD n (0, 0))).length + 1 + (j - (turns.length + 1) - ((endsS turns (str.getD n (0, 0))).length + 1)) = j - (turns.length + 1) by omega] at e2
    rw [show ((0 : Nat) : Int) = 0 from rfl] at e2
    rw [e2, List.drop_zero, drop_cons' str n (0, 0) (by omega)]
    have hc := cut1S_len turns least q (str.getD n (0, 0))
    exact ih (n + 1) _ (cut1S turns least q (str.getD n (0, 0))) (by omega) (by omega) (by omega)
end Go.AM
namespace Go.AM
open Go Go.Proofs
noncomputable section
abbrev R_u62 : Type := List (T21).T × List (T21).T
def res_u62 (r : R_u62) : AV := .tup []
def bo_u62 (yield_40 : List (I).T) (yield_50 : Int) (yield_110 : List (T21).T) (yield_120 : List (T21).T) (z00 : List (T2).T) (r : R_u62) : List (Nat × Blk) := [(0, .loop .ready none (rcAt Tryz.f81 11 [91]) (mkS 66 [(4, .ptr 1 0 0), (5, .ptr 2 0 0), (11, .ptr 3 0 0), (12, .ptr 5 0 0)])), (0, .var 25 [.r (.ro I yield_40)]), (0, .var 3 [.r (.v (.int .i64 yield_50))]), (0, .var 92 [.own 4 1]), (1, .row 91 T21 r.1), (0, .var 92 [.own 6 1]), (1, .row 91 T21 r.2), (0, .var 24 [.r (.ro T2 z00)])]
def args_u62 (yield_40 : List (I).T) (yield_50 : Int) (yield_110 : List (T21).T) (yield_120 : List (T21).T) (z00 : List (T2).T) : List AV := [.own 0 0, .ptr 7 0 0]
def bin_u62 (yield_40 : List (I).T) (yield_50 : Int) (yield_110 : List (T21).T) (yield_120 : List (T21).T) (z00 : List (T2).T) : List Blk := [.loop .ready none (rcAt Tryz.f81 11 [91]) (mkS 66 [(4, .ptr 1 0 0), (5, .ptr 2 0 0), (11, .ptr 3 0 0), (12, .ptr 5 0 0)]), .var 25 [.r (.ro I yield_40)], .var 3 [.r (.v (.int .i64 yield_50))], .var 92 [.own 4 0], .row 91 T21 yield_110, .var 92 [.own 6 0], .row 91 T21 yield_120, .var 24 [.r (.ro T2 z00)]]
abbrev C_u62 (yield_40 : List (I).T) (yield_50 : Int) (yield_110 : List (T21).T) (yield_120 : List (T21).T) (z00 : List (T2).T) (r : R_u62) : Prop := CC Tryz.prog 172 (args_u62 yield_40 yield_50 yield_110 yield_120 z00) (bin_u62 yield_40 yield_50 yield_110 yield_120 z00) (res_u62 r) (bo_u62 yield_40 yield_50 yield_110 yield_120 z00 r)
def st_u62_1 (yield_40 : List (I).T) (yield_50 : Int) (yield_110 : List (T21).T) (yield_120 : List (T21).T) (z00 : List (T2).T) (y0 : Int) (y1 : List (T21).T) (y2 : List (T21).T) : St := ⟨mkS 61 [(0, .own 0 0), (1, .ptr 7 0 0), (3, .r (.v (.int .i64 y0)))], [(0, 0, .loop .ready none (rcAt Tryz.f81 11 [91]) (mkS 66 [(4, .ptr 1 0 0), (5, .ptr 2 0 0), (11, .ptr 3 0 0), (12, .ptr 5 0 0)])), (1, 0, .var 25 [.r (.ro I yield_40)]), (2, 0, .var 3 [.r (.v (.int .i64 yield_50))]), (3, 0, .var 92 [.own 4 1]), (4, 1, .row 91 T21 y1), (5, 0, .var 92 [.own 6 1]), (6, 1, .row 91 T21 y2), (7, 0, .var 24 [.r (.ro T2 z00)])]⟩
def st_u62_5 (yield_40 : List (I).T) (yield_50 : Int) (yield_110 : List (T21).T) (yield_120 : List (T21).T) (z00 : List (T2).T) (y0 : Int) (y1 : Int) (y2 : List (T21).T) (y3 : List (T21).T) : St := ⟨mkS 61 [(0, .own 0 0), (1, .ptr 7 0 0), (3, .r (.v (.int .i64 y0))), (4, .r (.v (.int .i64 y1)))], [(0, 0, .loop .ready none (rcAt Tryz.f81 11 [91]) (mkS 66 [(4, .ptr 1 0 0), (5, .ptr 2 0 0), (11, .ptr 3 0 0), (12, .ptr 5 0 0)])), (1, 0, .var 25 [.r (.ro I yield_40)]), (2, 0, .var 3 [.r (.v (.int .i64 yield_50))]), (3, 0, .var 92 [.own 4 1]), (4, 1, .row 91 T21 y2), (5, 0, .var 92 [.own 6 1]), (6, 1, .row 91 T21 y3), (7, 0, .var 24 [.r (.ro T2 z00)])]⟩
mutual
def f_u62_1 (k : Nat) (yield_40 : List (I).T) (yield_50 : Int) (yield_110 : List (T21).T) (yield_120 : List (T21).T) (z00 : List (T2).T) : Nat → Int → List (T21).T → List (T21).T → Option R_u62
  | 0, _, _, _ => none
  | j + 1, y0, y1, y2 =>
  bif (decide (y0 < (↑z00.length : Int))) then
  if (0 ≤ y0) ∧ (y0 < (↑z00.length : Int)) then
  bif ((z00.getD y0.toNat T2.dflt).2.2.1 == (3 : Int)) then
  f_u62_1 k yield_40 yield_50 yield_110 yield_120 z00 j ((IntKind.i64.wrap (y0 + 1))) y1 y2
  else
  f_u62_5 k yield_40 yield_50 yield_110 yield_120 z00 j y0 y0 y1 y2
  else none
  else
  some ((y1, y2))
def f_u62_5 (k : Nat) (yield_40 : List (I).T) (yield_50 : Int) (yield_110 : List (T21).T) (yield_120 : List (T21).T) (z00 : List (T2).T) : Nat → Int → Int → List (T21).T → List (T21).T → Option R_u62
  | 0, _, _, _, _ => none
  | j + 1, y0, y1, y2, y3 =>
  if (decide (y1 < (↑z00.length : Int)) = true → 0 ≤ y1) ∧ (decide (y1 < (↑z00.length : Int)) = true → y1 < (↑z00.length : Int)) ∧ ((decide (y1 < (↑z00.length : Int)) && (z00.getD y1.toNat T2.dflt).2.2.1 != (3 : Int)) = true → 0 ≤ y1) ∧ ((decide (y1 < (↑z00.length : Int)) && (z00.getD y1.toNat T2.dflt).2.2.1 != (3 : Int)) = true → y1 < (↑z00.length : Int)) ∧ ((decide (y1 < (↑z00.length : Int)) && (z00.getD y1.toNat T2.dflt).2.2.1 != (3 : Int)) = true → 0 ≤ y0) ∧ ((decide (y1 < (↑z00.length : Int)) && (z00.getD y1.toNat T2.dflt).2.2.1 != (3 : Int)) = true → y0 < (↑z00.length : Int)) then
  bif (decide (y1 < (↑z00.length : Int)) && (z00.getD y1.toNat T2.dflt).2.2.1 != (3 : Int) && (z00.getD y1.toNat T2.dflt).2.2.2.2 == (z00.getD y0.toNat T2.dflt).2.2.2.2) then
  f_u62_5 k yield_40 yield_50 yield_110 yield_120 z00 j y0 ((IntKind.i64.wrap (y1 + 1))) y2 y3
  else
  if (0 ≤ y0) ∧ (y0 < (↑z00.length : Int)) ∧ ((0 : Int) ≤ IntKind.i64.wrap (y1 - (1 : Int))) ∧ (IntKind.i64.wrap (y1 - (1 : Int)) < (↑z00.length : Int)) ∧ ((f_u0 k yield_40 yield_50 y2 y3 ((z00.getD y0.toNat T2.dflt).1, (z00.getD (IntKind.i64.wrap (y1 - 1)).toNat T2.dflt).2.1)).isSome = true) then
  f_u62_1 k yield_40 yield_50 yield_110 yield_120 z00 j y1 ((v_u0 k yield_40 yield_50 y2 y3 ((z00.getD y0.toNat T2.dflt).1, (z00.getD (IntKind.i64.wrap (y1 - 1)).toNat T2.dflt).2.1)).1) ((v_u0 k yield_40 yield_50 y2 y3 ((z00.getD y0.toNat T2.dflt).1, (z00.getD (IntKind.i64.wrap (y1 - 1)).toNat T2.dflt).2.1)).2)
  else none
  else none
end
def f_u62 (k : Nat) (yield_40 : List (I).T) (yield_50 : Int) (yield_110 : List (T21).T) (yield_120 : List (T21).T) (z00 : List (T2).T) : Option R_u62 :=
  f_u62_1 k yield_40 yield_50 yield_110 yield_120 z00 k 0 yield_110 yield_120
def v_u62 (k : Nat) (yield_40 : List (I).T) (yield_50 : Int) (yield_110 : List (T21).T) (yield_120 : List (T21).T) (z00 : List (T2).T) : R_u62 := (f_u62 k yield_40 yield_50 yield_110 yield_120 z00).getD ([], [])
def ke_u62 (k : Nat) : Ke := (172, fun xs => match xs with
  | [.own _ _, .ptr _ _ _] => some [true, true]
  | _ => none, fun xs bs => match xs, bs with
  | [.own 0 0, .ptr 7 0 0], [.loop _ _ _ qyield_, .var 25 [.r (.ro tyield_40_ qyield_40)], .var 3 [.r (.v (.int .i64 yield_50))], .var 92 [.own 4 0], .row 91 tyield_110_ qyield_110, .var 92 [.own 6 0], .row 91 tyield_120_ qyield_120, .var 24 [.r (.ro tz00_ qz00)]] => (castL tyield_40_ I qyield_40).bind fun yield_40 => (castL tyield_110_ T21 qyield_110).bind fun yield_110 => (castL tyield_120_ T21 qyield_120).bind fun yield_120 => (castL tz00_ T2 qz00).bind fun z00 => some (.one (res_u62 (v_u62 k yield_40 yield_50 yield_110 yield_120 z00), bo_u62 yield_40 yield_50 yield_110 yield_120 z00 (v_u62 k yield_40 yield_50 yield_110 yield_120 z00)))
  | _, _ => none)
def cs_u62 : List (Nat × List Cmd) := [(1, [.autoB [0, 1, 3] false [4, 6]]), (5, [.autoB [0, 1, 3, 4] false [4, 6]])]
abbrev E_u62 (yield_40 : List (I).T) (yield_50 : Int) (yield_110 : List (T21).T) (yield_120 : List (T21).T) (z00 : List (T2).T) (todo : List Item) (st : St) (o : Option R_u62) : Prop := ∀ r, o = some r → Ev Tryz.prog Tryz.f172 8 todo st (res_u62 r) (bo_u62 yield_40 yield_50 yield_110 yield_120 z00 r)
theorem ev_u62 (k : Nat) (yield_40 : List (I).T) (yield_50 : Int) (yield_110 : List (T21).T) (yield_120 : List (T21).T) (z00 : List (T2).T) : ∀ j, (∀ (y0 : Int) (y1 : List (T21).T) (y2 : List (T21).T), E_u62 yield_40 yield_50 yield_110 yield_120 z00 (placeAt Tryz.f172 1) (st_u62_1 yield_40 yield_50 yield_110 yield_120 z00 y0 y1 y2) (f_u62_1 k yield_40 yield_50 yield_110 yield_120 z00 j y0 y1 y2)) ∧ (∀ (y0 : Int) (y1 : Int) (y2 : List (T21).T) (y3 : List (T21).T), E_u62 yield_40 yield_50 yield_110 yield_120 z00 (placeAt Tryz.f172 5) (st_u62_5 yield_40 yield_50 yield_110 yield_120 z00 y0 y1 y2 y3) (f_u62_5 k yield_40 yield_50 yield_110 yield_120 z00 j y0 y1 y2 y3))
  | 0 => ⟨fun _ _ _ _ h => (nomatch h), fun _ _ _ _ _ h => (nomatch h)⟩
  | j + 1 => by
    have ih := @ev_u62 k yield_40 yield_50 yield_110 yield_120 z00 j
    refine ⟨?_, ?_⟩
    · intro y0 y1 y2 r h
      rw [f_u62_1] at h
      exact go (mkK [ke_u0 k]) [] cs_u62 [.autoB [] true [4, 6]] (gT h (fun c h => gN2 h fun h => gT h (fun c h => gC h 1 (ih.1 _ _ _ _)) fun c h => gC h 5 (ih.2 _ _ _ _ _)) fun c h => gL h) (by kernel_rfl)
    · intro y0 y1 y2 y3 r h
      rw [f_u62_5] at h
      exact go (mkK [ke_u0 k]) [] cs_u62 [.autoB [] true [4, 6]] (gN h (fun q => conjC q.1 (conjC q.2.1 (conjC q.2.2.1 (conjC q.2.2.2.1 (conjC q.2.2.2.2.1 (conjC q.2.2.2.2.2 conj0)))))) fun h => gT h (fun c h => gC h 5 (ih.2 _ _ _ _ _)) fun c h => gN h (fun q => conjC q.1 (conjC q.2.1 (conjC q.2.2.1 (conjC q.2.2.2.1 (conjC (cc_u0 q.2.2.2.2) conj0))))) fun h => gU2 h (.leaf (.tup []) [(0, .loop .ready none (rcAt Tryz.f81 11 [91]) (mkS 66 [(4, .ptr 1 0 0), (5, .ptr 2 0 0), (11, .ptr 3 0 0), (12, .ptr 5 0 0)])), (0, .var 25 [.r (.ro I yield_40)]), (0, .var 3 [.r (.v (.int .i64 yield_50))]), (0, .var 92 [.own 4 1]), (1, .row 91 T21 ((v_u0 k yield_40 yield_50 y2 y3 ((z00.getD y0.toNat T2.dflt).1, (z00.getD (IntKind.i64.wrap (y1 - 1)).toNat T2.dflt).2.1)).1)), (0, .var 92 [.own 6 1]), (1, .row 91 T21 ((v_u0 k yield_40 yield_50 y2 y3 ((z00.getD y0.toNat T2.dflt).1, (z00.getD (IntKind.i64.wrap (y1 - 1)).toNat T2.dflt).2.1)).2)), (0, .var 24 [.r (.ro T2 z00)])]) fun h => gC h 1 (ih.1 _ _ _ _)) (by kernel_rfl)
theorem of_u62 (k : Nat) (yield_40 : List (I).T) (yield_50 : Int) (yield_110 : List (T21).T) (yield_120 : List (T21).T) (z00 : List (T2).T) (r : R_u62) (h : f_u62 k yield_40 yield_50 yield_110 yield_120 z00 = some r) : C_u62 yield_40 yield_50 yield_110 yield_120 z00 r := by
  refine CC.of (fn := Tryz.f172) (by kernel_rfl) (by kernel_rfl) (by kernel_rfl) (by kernel_rfl) ?_
  unfold f_u62 at h
  exact go (mkK [ke_u0 k]) [] cs_u62 [.autoB [] true [4, 6]] (gC h 1 ((ev_u62 k yield_40 yield_50 yield_110 yield_120 z00 k).1 _ _ _ _)) (by kernel_rfl)
theorem cc_u62 {k : Nat} {yield_40 : List (I).T} {yield_50 : Int} {yield_110 : List (T21).T} {yield_120 : List (T21).T} {z00 : List (T2).T} (h : (f_u62 k yield_40 yield_50 yield_110 yield_120 z00).isSome = true) : C_u62 yield_40 yield_50 yield_110 yield_120 z00 (v_u62 k yield_40 yield_50 yield_110 yield_120 z00) := ccG (Φ := C_u62 yield_40 yield_50 yield_110 yield_120 z00) h (of_u62 k yield_40 yield_50 yield_110 yield_120 z00)

end
/-! ### the program's Cut: a range over the stretches -/
theorem pst (k : Nat) (hk : 600 ≤ k) (turns : List Int) (least : Int) (y z : List (Int × Int)) (l : List Sct) (hl : l.length ≤ 512) (ht : turns.length ≤ 512) (hin : ∀ x ∈ turns, inW x) (hs : ∀ x ∈ l, inW x.1 ∧ inW x.2.1) : ∀ d : Nat,
    (∀ (i j : Nat) (a b : List (Int × Int)), i + d = l.length → 3 * d < j → a.length + b.length + d * 513 ≤ 900000 →
      f_u62_1 k turns least y z l j (i : Int) a b = some (cutsS turns least (a, b) (strGo none (l.drop i)))) ∧
    (∀ (i p j : Nat) (a b : List (Int × Int)), p + d = l.length → i < p → 3 * d + 1 < j → a.length + b.length + (d + 1) * 513 ≤ 900000 →
      f_u62_5 k turns least y z l j (i : Int) (p : Int) a b = some (cutsS turns least (a, b) (strGo (some ((l.getD i T2.dflt).1, (l.getD (p - 1) T2.dflt).2.1, (l.getD i T2.dflt).2.2.2.2)) (l.drop p)))) := by
  have and1 : ∀ {a b : Bool}, (a && b) = true → a = true := fun {a b} h => (Bool.and_eq_true_iff.1 h).1
  intro d
  induction d with
  | zero =>
    have g1 : ∀ (i j : Nat) (a b : List (Int × Int)), i + 0 = l.length → 3 * 0 < j → a.length + b.length + 0 * 513 ≤ 900000 →
      f_u62_1 k turns least y z l j (i : Int) a b = some (cutsS turns least (a, b) (strGo none (l.drop i))) := by
      intro i j a b hi hj _
      obtain ⟨j, rfl⟩ : ∃ q, j = q + 1 := ⟨j - 1, by omega⟩
      rw [f_u62_1, decide_eq_false (by omega : ¬ (i : Int) < (l.length : Int)), cond_false, List.drop_of_length_le (by omega)]; rfl
    refine ⟨g1, fun i p j a b hp hip hj hab => ?_⟩
    obtain ⟨j, rfl⟩ : ∃ q, j = q + 1 := ⟨j - 1, by omega⟩
    have hf : decide ((p : Int) < (l.length : Int)) = false := decide_eq_false (by omega)
    have hw : IntKind.i64.wrap ((p : Int) - 1) = ((p - 1 : Nat) : Int) := by rw [wrap_id (by omega) (by omega)]; omega
    have hm1 := hs (l.getD i T2.dflt) (gdm _ _ _ (by omega))
    have hm2 := hs (l.getD (p - 1) T2.dflt) (gdm _ _ _ (by omega))
    have hr := fun h => rCut_s k hk turns least a b ((l.getD i T2.dflt).1, (l.getD (p - 1) T2.dflt).2.1) hin ht hm1.1 hm2.2 h
    have hv := fun h => rCut_v k hk turns least a b ((l.getD i T2.dflt).1, (l.getD (p - 1) T2.dflt).2.1) hin ht hm1.1 hm2.2 h
    have h3 : (0 : Int) ≤ (i : Int) := by omega
    have h4 : (i : Int) < (l.length : Int) := by omega
    rw [f_u62_5, hf, Bool.false_and, Bool.false_and, cond_false, if_pos ⟨fun h => absurd h Bool.false_ne_true, fun h => absurd h Bool.false_ne_true, fun h => absurd h Bool.false_ne_true, fun h => absurd h Bool.false_ne_true, fun h => absurd h Bool.false_ne_true, fun h => absurd h Bool.false_ne_true⟩, hw, Int.toNat_natCast, Int.toNat_natCast, hr (by omega), hv (by omega), if_pos ⟨h3, h4, by omega, by omega, rfl⟩]
    have hc := cut1S_len turns least (a, b) ((l.getD i T2.dflt).1, (l.getD (p - 1) T2.dflt).2.1)
    rw [g1 p j _ _ (by omega) (by omega) (by simp only at hc; omega), List.drop_of_length_le (by omega)]
    rfl
  | succ d ih =>
    have g1 : ∀ (i j : Nat) (a b : List (Int × Int)), i + (d + 1) = l.length → 3 * (d + 1) < j → a.length + b.length + (d + 1) * 513 ≤ 900000 →
      f_u62_1 k turns least y z l j (i : Int) a b = some (cutsS turns least (a, b) (strGo none (l.drop i))) := by
      intro i j a b hi hj hab
      obtain ⟨j, rfl⟩ : ∃ q, j = q + 1 := ⟨j - 1, by omega⟩
      have h3 : (0 : Int) ≤ (i : Int) := by omega
      have h4 : (i : Int) < (l.length : Int) := by omega
      rw [f_u62_1, decide_eq_true h4, cond_true, if_pos ⟨h3, h4⟩, Int.toNat_natCast, wrapS i (by omega), drop_cons' l i T2.dflt (by omega)]
      cases hx : ((l.getD i T2.dflt).2.2.1 == (3 : Int))
      · have hx' : (l.getD i T2.dflt).2.2.1 ≠ 3 := by simpa using hx
        obtain ⟨j, rfl⟩ : ∃ q, j = q + 1 := ⟨j - 1, by omega⟩
        have hb : ((l.getD i T2.dflt).2.2.1 != (3 : Int)) = true := by simpa using hx'
        rw [cond_false, f_u62_5, decide_eq_true h4, Int.toNat_natCast, hb, if_pos ⟨fun _ => h3, fun _ => h4, fun _ => h3, fun _ => h4, fun _ => h3, fun _ => h4⟩, Bool.true_and, Bool.true_and, show ((l.getD i T2.dflt).2.2.2.2 == (l.getD i T2.dflt).2.2.2.2) = true from beq_self_eq_true _, cond_true, wrapS i (by omega), ih.2 i (i + 1) j a b (by omega) (by omega) (by omega) hab, strGo_none _ _ hx']
        rfl
      · have hx' : (l.getD i T2.dflt).2.2.1 = 3 := by simpa using hx
        have hab' : a.length + b.length + d * 513 ≤ 900000 := Nat.le_trans (Nat.add_le_add_left (Nat.mul_le_mul_right 513 (Nat.le_succ d)) _) hab
        rw [cond_true, ih.1 (i + 1) j a b (by omega) (by omega) hab', strGo_lost _ _ hx']
    refine ⟨g1, fun i p j a b hp hip hj hab => ?_⟩
    obtain ⟨j, rfl⟩ : ∃ q, j = q + 1 := ⟨j - 1, by omega⟩
    have hf : decide ((p : Int) < (l.length : Int)) = true := decide_eq_true (by omega)
    have hw : IntKind.i64.wrap ((p : Int) - 1) = ((p - 1 : Nat) : Int) := by rw [wrap_id (by omega) (by omega)]; omega
    have h3 : (0 : Int) ≤ (i : Int) := by omega
    have h4 : (i : Int) < (l.length : Int) := by omega
    have p3 : (0 : Int) ≤ (p : Int) := by omega
    have p4 : (p : Int) < (l.length : Int) := by omega
    rw [f_u62_5, hf, Int.toNat_natCast, Int.toNat_natCast, if_pos ⟨fun _ => p3, fun _ => p4, fun _ => p3, fun _ => p4, fun _ => h3, fun _ => h4⟩, Bool.true_and, drop_cons' l p T2.dflt (by omega), wrapS p (by omega)]
    cases hx : (((l.getD p T2.dflt).2.2.1 != (3 : Int)) && ((l.getD p T2.dflt).2.2.2.2 == (l.getD i T2.dflt).2.2.2.2))
    · have hn : ¬ ((l.getD p T2.dflt).2.2.1 ≠ 3 ∧ (l.getD p T2.dflt).2.2.2.2 = (l.getD i T2.dflt).2.2.2.2) := by
        intro h
        rw [bne_iff_ne.2 h.1, beq_iff_eq.2 h.2] at hx
        cases hx
      have hm1 := hs (l.getD i T2.dflt) (gdm _ _ _ (by omega))
      have hm2 := hs (l.getD (p - 1) T2.dflt) (gdm _ _ _ (by omega))
      have hr := fun h => rCut_s k hk turns least a b ((l.getD i T2.dflt).1, (l.getD (p - 1) T2.dflt).2.1) hin ht hm1.1 hm2.2 h
      have hv := fun h => rCut_v k hk turns least a b ((l.getD i T2.dflt).1, (l.getD (p - 1) T2.dflt).2.1) hin ht hm1.1 hm2.2 h
      have hc := cut1S_len turns least (a, b) ((l.getD i T2.dflt).1, (l.getD (p - 1) T2.dflt).2.1)
      rw [cond_false, hw, Int.toNat_natCast, hr (by omega), hv (by omega), if_pos ⟨h3, h4, by omega, by omega, rfl⟩, g1 p j _ _ (by omega) (by omega) (by simp only at hc; omega), drop_cons' l p T2.dflt (by omega), strGo_end _ (l.getD p T2.dflt :: _) (fun x t e h => by cases e; exact hn h)]
      rfl
    · have hy := Bool.and_eq_true_iff.1 hx
      have y1 : (l.getD p T2.dflt).2.2.1 ≠ 3 := by simpa using hy.1
      have y2 : (l.getD p T2.dflt).2.2.2.2 = (l.getD i T2.dflt).2.2.2.2 := by simpa using hy.2
      have hab' : a.length + b.length + (d + 1) * 513 ≤ 900000 := Nat.le_trans (Nat.add_le_add_left (Nat.mul_le_mul_right 513 (Nat.le_succ (d + 1))) _) hab
      rw [cond_true, ih.2 i (p + 1) j a b (by omega) (by omega) (by omega) hab', strGo_on ((l.getD i T2.dflt).1, (l.getD (p - 1) T2.dflt).2.1, (l.getD i T2.dflt).2.2.2.2) _ _ y1 y2, Nat.add_sub_cancel]
theorem str_s (k : Nat) (hk : 2000 ≤ k) (turns : List Int) (least : Int) (l : List Sct) (hl : l.length ≤ 512) (ht : turns.length ≤ 512) (hin : ∀ x ∈ turns, inW x) (hs : ∀ x ∈ l, inW x.1 ∧ inW x.2.1) :
    f_u62 k turns least [] [] l = some (cutsS turns least ([], []) (strGo none l)) := by
  unfold f_u62
  exact (pst k (by omega) turns least [] [] l hl ht hin hs l.length).1 0 k [] [] (by omega) (by omega) (by simp; omega)
theorem str_v (k : Nat) (hk : 2000 ≤ k) (turns : List Int) (least : Int) (l : List Sct) (hl : l.length ≤ 512) (ht : turns.length ≤ 512) (hin : ∀ x ∈ turns, inW x) (hs : ∀ x ∈ l, inW x.1 ∧ inW x.2.1) :
    v_u62 k turns least [] [] l = cutsS turns least ([], []) (strGo none l) := by
  unfold v_u62; rw [str_s k hk turns least l hl ht hin hs]; rfl
end Go.AM
namespace Go.AM
open Go Go.Proofs
noncomputable section
abbrev R_u59 : Type := Int
def res_u59 (r : R_u59) : AV := .r (.v (.int .i64 r))
def bo_u59 (s_ : T2.T) (r : R_u59) : List (Nat × Blk) := []
def args_u59 (s_ : T2.T) : List AV := [.agg (rvs (enc T2 s_))]
def bin_u59 (s_ : T2.T) : List Blk := []
abbrev C_u59 (s_ : T2.T) (r : R_u59) : Prop := CC Tryz.prog 123 (args_u59 s_) (bin_u59 s_) (res_u59 r) (bo_u59 s_ r)
def f_u59 (k : Nat) (s_ : T2.T) : Option R_u59 :=
  bif (decide (s_.1 < (0 : Int)) || decide (s_.1 ≥ s_.2.1) || decide (s_.2.1 > (17179869184 : Int))) then
  some 1
  else
  bif (decide (s_.2.2.1 < (1 : Int)) || decide (s_.2.2.1 > (3 : Int))) then
  some 17
  else
  bif (decide (s_.2.2.2.1 < (-1 : Int)) || decide (s_.2.2.2.1 ≥ (16 : Int))) then
  some 22
  else
  bif (decide (s_.2.2.2.2 < (0 : Int)) || decide (s_.2.2.2.2 > (2048 : Int))) then
  some 1
  else
  some 0
def v_u59 (k : Nat) (s_ : T2.T) : R_u59 := (f_u59 k s_).getD 0
def ke_u59 (k : Nat) : Ke := (123, fun xs => match xs with
  | [_] => some [false]
  | _ => none, fun xs bs => match xs, bs with
  | [.agg qs_], [] => (decS [] T2 qs_).bind fun s_ => some (.one (res_u59 (v_u59 k s_), bo_u59 s_ (v_u59 k s_)))
  | _, _ => none)
theorem of_u59 (k : Nat) (s_ : T2.T) (r : R_u59) (h : f_u59 k s_ = some r) : C_u59 s_ r := by
  refine CC.of (fn := Tryz.f123) (by kernel_rfl) (by kernel_rfl) (by kernel_rfl) (by kernel_rfl) ?_
  unfold f_u59 at h
  exact go (mkK []) [] [] [.autoB [2] true []] (gT h (fun c h => gL h) fun c h => gT h (fun c h => gL h) fun c h => gT h (fun c h => gL h) fun c h => gT h (fun c h => gL h) fun c h => gL h) (by kernel_rfl)
theorem cc_u59 {k : Nat} {s_ : T2.T} (h : (f_u59 k s_).isSome = true) : C_u59 s_ (v_u59 k s_) := ccG (Φ := C_u59 s_) h (of_u59 k s_)
abbrev R_u55 : Type := Int
def res_u55 (r : R_u55) : AV := .r (.v (.int .i64 r))
def bo_u55 (l_ : List (T2).T) (r : R_u55) : List (Nat × Blk) := []
def args_u55 (l_ : List (T2).T) : List AV := [.r (.ro T2 l_)]
def bin_u55 (l_ : List (T2).T) : List Blk := []
abbrev C_u55 (l_ : List (T2).T) (r : R_u55) : Prop := CC Tryz.prog 79 (args_u55 l_) (bin_u55 l_) (res_u55 r) (bo_u55 l_ r)
def st_u55_4 (y0 : List (T2).T) (y1 : List (T2).T) (y2 : Int) (y3 : Int) : St := ⟨mkS 46 [(0, .r (.ro T2 y0)), (13, .r (.ro T2 y1)), (14, .r (.v (.int .i64 y2))), (15, .r (.v (.int .i64 y3)))], []⟩
def st_u55_12 (y0 : Int) (y1 : Int) (y2 : List (T2).T) (y3 : Int) (y4 : Int) : St := ⟨mkS 46 [(6, .r (.v (.int .i64 y0))), (7, .r (.v (.int .i64 y1))), (25, .r (.ro T2 y2)), (26, .r (.v (.int .i64 y3))), (27, .r (.v (.int .i64 y4)))], []⟩
mutual
def f_u55_4 (k : Nat) : Nat → List (T2).T → List (T2).T → Int → Int → Option R_u55
  | 0, _, _, _, _ => none
  | j + 1, y0, y1, y2, y3 =>
  bif (decide (y3 < y2)) then
  if (0 ≤ y3) ∧ (y3 < (↑y1.length : Int)) then
  if ((f_u59 k (y1.getD y3.toNat T2.dflt)).isSome = true) then
  bif (v_u59 k (y1.getD y3.toNat T2.dflt) != (0 : Int)) then
  some (v_u59 k (y1.getD y3.toNat T2.dflt))
  else
  f_u55_4 k j y0 y1 y2 ((IntKind.i64.wrap (y3 + 1)))
  else none
  else none
  else
  f_u55_12 k j 0 0 y0 ((↑y0.length : Int)) 0
def f_u55_12 (k : Nat) : Nat → Int → Int → List (T2).T → Int → Int → Option R_u55
  | 0, _, _, _, _, _ => none
  | j + 1, y0, y1, y2, y3, y4 =>
  bif (decide (y4 < y3)) then
  if (0 ≤ y4) ∧ (y4 < (↑y2.length : Int)) then
  bif ((y2.getD y4.toNat T2.dflt).1 != y0 || decide ((y2.getD y4.toNat T2.dflt).2.2.2.2 < y1)) then
  some 9
  else
  f_u55_12 k j ((y2.getD y4.toNat T2.dflt).2.1) ((y2.getD y4.toNat T2.dflt).2.2.2.2) y2 y3 ((IntKind.i64.wrap (y4 + 1)))
  else none
  else
  some 0
end
def f_u55 (k : Nat) (l_ : List (T2).T) : Option R_u55 :=
  bif (decide ((↑l_.length : Int) > (512 : Int))) then
  some 8
  else
  f_u55_4 k k l_ l_ ((↑l_.length : Int)) 0
def v_u55 (k : Nat) (l_ : List (T2).T) : R_u55 := (f_u55 k l_).getD 0
def ke_u55 (k : Nat) : Ke := (79, fun xs => match xs with
  | [_] => some [false]
  | _ => none, fun xs bs => match xs, bs with
  | [.r (.ro tl__ ql_)], [] => (castL tl__ T2 ql_).bind fun l_ => some (.one (res_u55 (v_u55 k l_), bo_u55 l_ (v_u55 k l_)))
  | _, _ => none)
def cs_u55 : List (Nat × List Cmd) := [(4, [.autoB [0, 13, 14, 15] false []]), (12, [.autoB [6, 7, 25, 26, 27] false []])]
abbrev E_u55 (l_ : List (T2).T) (todo : List Item) (st : St) (o : Option R_u55) : Prop := ∀ r, o = some r → Ev Tryz.prog Tryz.f79 0 todo st (res_u55 r) (bo_u55 l_ r)
theorem ev_u55 (k : Nat) (l_ : List (T2).T) : ∀ j, (∀ (y0 : List (T2).T) (y1 : List (T2).T) (y2 : Int) (y3 : Int), E_u55 l_ (placeAt Tryz.f79 4) (st_u55_4 y0 y1 y2 y3) (f_u55_4 k j y0 y1 y2 y3)) ∧ (∀ (y0 : Int) (y1 : Int) (y2 : List (T2).T) (y3 : Int) (y4 : Int), E_u55 l_ (placeAt Tryz.f79 12) (st_u55_12 y0 y1 y2 y3 y4) (f_u55_12 k j y0 y1 y2 y3 y4))
  | 0 => ⟨fun _ _ _ _ _ h => (nomatch h), fun _ _ _ _ _ _ h => (nomatch h)⟩
  | j + 1 => by
    have ih := @ev_u55 k l_ j
    refine ⟨?_, ?_⟩
    · intro y0 y1 y2 y3 r h
      rw [f_u55_4] at h
      exact go (mkK [ke_u59 k]) [] cs_u55 [.autoB [2] true []] (gT h (fun c h => gN2 h fun h => gN1 h (fun q => cc_u59 q) fun h => gT h (fun c h => gL h) fun c h => gC h 4 (ih.1 _ _ _ _ _)) fun c h => gC h 12 (ih.2 _ _ _ _ _ _)) (by kernel_rfl)
    · intro y0 y1 y2 y3 y4 r h
      rw [f_u55_12] at h
      exact go (mkK [ke_u59 k]) [] cs_u55 [.autoB [2] true []] (gT h (fun c h => gN2 h fun h => gT h (fun c h => gL h) fun c h => gC h 12 (ih.2 _ _ _ _ _ _)) fun c h => gL h) (by kernel_rfl)
theorem of_u55 (k : Nat) (l_ : List (T2).T) (r : R_u55) (h : f_u55 k l_ = some r) : C_u55 l_ r := by
  refine CC.of (fn := Tryz.f79) (by kernel_rfl) (by kernel_rfl) (by kernel_rfl) (by kernel_rfl) ?_
  unfold f_u55 at h
  exact go (mkK [ke_u59 k]) [] cs_u55 [.autoB [2] true []] (gT h (fun c h => gL h) fun c h => gC h 4 ((ev_u55 k l_ k).1 _ _ _ _ _)) (by kernel_rfl)
theorem cc_u55 {k : Nat} {l_ : List (T2).T} (h : (f_u55 k l_).isSome = true) : C_u55 l_ (v_u55 k l_) := ccG (Φ := C_u55 l_) h (of_u55 k l_)
abbrev R_u58 : Type := List (T2).T × Int
def res_u58 (r : R_u58) : AV := .tup [.r (.ro T2 r.1), .r (.v (.int .i64 r.2))]
def bo_u58 (l_ : List (T2).T) (s_ : T21.T) (r : R_u58) : List (Nat × Blk) := []
def args_u58 (l_ : List (T2).T) (s_ : T21.T) : List AV := [.r (.ro T2 l_), .agg (rvs (enc T21 s_))]
def bin_u58 (l_ : List (T2).T) (s_ : T21.T) : List Blk := []
abbrev C_u58 (l_ : List (T2).T) (s_ : T21.T) (r : R_u58) : Prop := CC Tryz.prog 80 (args_u58 l_ s_) (bin_u58 l_ s_) (res_u58 r) (bo_u58 l_ s_ r)
def st_u58_11 (y0 : List (T2).T) (y1 : Int) (y2 : Int) (y3 : T21.T) (y4 : List (T2).T) : St := ⟨mkS 77 [(3, .ptr 1000000 0 0), (8, .own 1000001 0), (42, .r (.ro T2 y0)), (43, .r (.v (.int .i64 y1))), (44, .r (.v (.int .i64 y2)))], [(1000000, 0, .var 91 (rvs (enc T21 y3))), (1000001, 0, .row 87 T2 y4)]⟩
def f_u58_11 (k : Nat) : Nat → List (T2).T → Int → Int → T21.T → List (T2).T → Option R_u58
  | 0, _, _, _, _, _ => none
  | j + 1, y0, y1, y2, y3, y4 =>
  bif (decide (y2 < y1)) then
  if (0 ≤ y2) ∧ (y2 < (↑y0.length : Int)) then
  bif (decide (IntKind.i64.wrap ((if y3.1 > (y0.getD y2.toNat T2.dflt).1 then y3.1 else (y0.getD y2.toNat T2.dflt).1) - y3.1) < IntKind.i64.wrap ((if y3.2 < (y0.getD y2.toNat T2.dflt).2.1 then y3.2 else (y0.getD y2.toNat T2.dflt).2.1) - y3.1))) then
  if ((y4.length + [(IntKind.i64.wrap ((if y3.1 > (y0.getD y2.toNat T2.dflt).1 then y3.1 else (y0.getD y2.toNat T2.dflt).1) - y3.1), IntKind.i64.wrap ((if y3.2 < (y0.getD y2.toNat T2.dflt).2.1 then y3.2 else (y0.getD y2.toNat T2.dflt).2.1) - y3.1), (y0.getD y2.toNat T2.dflt).2.2)].length) * (40 : Nat) ≤ (140737488355328 : Nat)) then
  f_u58_11 k j y0 y1 ((IntKind.i64.wrap (y2 + 1))) y3 ((y4 ++ [(IntKind.i64.wrap ((if y3.1 > (y0.getD y2.toNat T2.dflt).1 then y3.1 else (y0.getD y2.toNat T2.dflt).1) - y3.1), IntKind.i64.wrap ((if y3.2 < (y0.getD y2.toNat T2.dflt).2.1 then y3.2 else (y0.getD y2.toNat T2.dflt).2.1) - y3.1), (y0.getD y2.toNat T2.dflt).2.2)]))
  else none
  else
  f_u58_11 k j y0 y1 ((IntKind.i64.wrap (y2 + 1))) y3 y4
  else none
  else
  some ((y4, 0))
def f_u58 (k : Nat) (l_ : List (T2).T) (s_ : T21.T) : Option R_u58 :=
  if ((f_u55 k l_).isSome = true) then
  bif (v_u55 k l_ != (0 : Int)) then
  some (([], v_u55 k l_))
  else
  bif (decide ((↑l_.length : Int) > (0 : Int))) then
  if ((0 : Int) ≤ IntKind.i64.wrap ((↑l_.length : Int) - (1 : Int))) ∧ (IntKind.i64.wrap ((↑l_.length : Int) - (1 : Int)) < (↑l_.length : Int)) then
  bif (decide (s_.1 < (0 : Int)) || decide (s_.1 > s_.2) || decide (s_.2 > (l_.getD (IntKind.i64.wrap ((↑l_.length : Int) - (1 : Int))).toNat T2.dflt).2.1)) then
  some (([], 1))
  else
  f_u58_11 k k l_ ((↑l_.length : Int)) 0 s_ ([])
  else none
  else
  bif (decide (s_.1 < (0 : Int)) || decide (s_.1 > s_.2) || decide (s_.2 > (0 : Int))) then
  some (([], 1))
  else
  f_u58_11 k k l_ ((↑l_.length : Int)) 0 s_ ([])
  else none
def v_u58 (k : Nat) (l_ : List (T2).T) (s_ : T21.T) : R_u58 := (f_u58 k l_ s_).getD ([], 0)
def ke_u58 (k : Nat) : Ke := (80, fun xs => match xs with
  | [_, _] => some [false, false]
  | _ => none, fun xs bs => match xs, bs with
  | [.r (.ro tl__ ql_), .agg qs_], [] => (castL tl__ T2 ql_).bind fun l_ => (decS [] T21 qs_).bind fun s_ => some (.one (res_u58 (v_u58 k l_ s_), bo_u58 l_ s_ (v_u58 k l_ s_)))
  | _, _ => none)
def cs_u58 : List (Nat × List Cmd) := [(11, [.row 8 87 T2, .autoB [3, 8, 42, 43, 44] false []])]
abbrev E_u58 (l_ : List (T2).T) (s_ : T21.T) (todo : List Item) (st : St) (o : Option R_u58) : Prop := ∀ r, o = some r → Ev Tryz.prog Tryz.f80 0 todo st (res_u58 r) (bo_u58 l_ s_ r)
theorem ev_u58 (k : Nat) (l_ : List (T2).T) (s_ : T21.T) : ∀ j, (∀ (y0 : List (T2).T) (y1 : Int) (y2 : Int) (y3 : T21.T) (y4 : List (T2).T), E_u58 l_ s_ (placeAt Tryz.f80 11) (st_u58_11 y0 y1 y2 y3 y4) (f_u58_11 k j y0 y1 y2 y3 y4))
  | 0 => fun _ _ _ _ _ _ h => (nomatch h)
  | j + 1 => by
    have ih := @ev_u58 k l_ s_ j
    · intro y0 y1 y2 y3 y4 r h
      rw [f_u58_11] at h
      exact go (mkK [ke_u55 k]) [] cs_u58 [.frz 4 false (RTy.list T2), .autoB [4, 5] true []] (gT h (fun c h => gN2 h fun h => gT h (fun c h => gN1 h id fun h => gC h 11 (ih _ _ _ _ _ _)) fun c h => gC h 11 (ih _ _ _ _ _ _)) fun c h => gL h) (by kernel_rfl)
theorem of_u58 (k : Nat) (l_ : List (T2).T) (s_ : T21.T) (r : R_u58) (h : f_u58 k l_ s_ = some r) : C_u58 l_ s_ r := by
  refine CC.of (fn := Tryz.f80) (by kernel_rfl) (by kernel_rfl) (by kernel_rfl) (by kernel_rfl) ?_
  unfold f_u58 at h
  exact go (mkK [ke_u55 k]) [] cs_u58 [.frz 4 false (RTy.list T2), .autoB [4, 5] true []] (gN1 h (fun q => cc_u55 q) fun h => gT h (fun c h => gL h) fun c h => gT h (fun c h => gN2 h fun h => gT h (fun c h => gL h) fun c h => gC h 11 ((ev_u58 k l_ s_ k) _ _ _ _ _ _)) fun c h => gT h (fun c h => gL h) fun c h => gC h 11 ((ev_u58 k l_ s_ k) _ _ _ _ _ _)) (by kernel_rfl)
theorem cc_u58 {k : Nat} {l_ : List (T2).T} {s_ : T21.T} (h : (f_u58 k l_ s_).isSome = true) : C_u58 l_ s_ (v_u58 k l_ s_) := ccG (Φ := C_u58 l_ s_) h (of_u58 k l_ s_)
abbrev R_u50 : Type := Int
def res_u50 (r : R_u50) : AV := .r (.v (.int .i64 r))
def bo_u50 (l_ : List (T2).T) (r : R_u50) : List (Nat × Blk) := []
def args_u50 (l_ : List (T2).T) : List AV := [.r (.ro T2 l_)]
def bin_u50 (l_ : List (T2).T) : List Blk := []
abbrev C_u50 (l_ : List (T2).T) (r : R_u50) : Prop := CC Tryz.prog 83 (args_u50 l_) (bin_u50 l_) (res_u50 r) (bo_u50 l_ r)
def f_u50 (k : Nat) (l_ : List (T2).T) : Option R_u50 :=
  bif ((↑l_.length : Int) == (0 : Int)) then
  some 0
  else
  if ((0 : Int) ≤ IntKind.i64.wrap ((↑l_.length : Int) - (1 : Int))) ∧ (IntKind.i64.wrap ((↑l_.length : Int) - (1 : Int)) < (↑l_.length : Int)) then
  some ((l_.getD (IntKind.i64.wrap ((↑l_.length : Int) - 1)).toNat T2.dflt).2.1)
  else none
def v_u50 (k : Nat) (l_ : List (T2).T) : R_u50 := (f_u50 k l_).getD 0
def ke_u50 (k : Nat) : Ke := (83, fun xs => match xs with
  | [_] => some [false]
  | _ => none, fun xs bs => match xs, bs with
  | [.r (.ro tl__ ql_)], [] => (castL tl__ T2 ql_).bind fun l_ => some (.one (res_u50 (v_u50 k l_), bo_u50 l_ (v_u50 k l_)))
  | _, _ => none)
theorem of_u50 (k : Nat) (l_ : List (T2).T) (r : R_u50) (h : f_u50 k l_ = some r) : C_u50 l_ r := by
  refine CC.of (fn := Tryz.f83) (by kernel_rfl) (by kernel_rfl) (by kernel_rfl) (by kernel_rfl) ?_
  unfold f_u50 at h
  exact go (mkK []) [] [] [.autoB [2] true []] (gT h (fun c h => gL h) fun c h => gN2 h fun h => gL h) (by kernel_rfl)
theorem cc_u50 {k : Nat} {l_ : List (T2).T} (h : (f_u50 k l_).isSome = true) : C_u50 l_ (v_u50 k l_) := ccG (Φ := C_u50 l_) h (of_u50 k l_)
abbrev R_u48 : Type := List (T2).T × Int
def res_u48 (r : R_u48) : AV := .tup [.r (.ro T2 r.1), .r (.v (.int .i64 r.2))]
def bo_u48 (l_ : List (T2).T) (s_ : T21.T) (r : R_u48) : List (Nat × Blk) := []
def args_u48 (l_ : List (T2).T) (s_ : T21.T) : List AV := [.r (.ro T2 l_), .agg (rvs (enc T21 s_))]
def bin_u48 (l_ : List (T2).T) (s_ : T21.T) : List Blk := []
abbrev C_u48 (l_ : List (T2).T) (s_ : T21.T) (r : R_u48) : Prop := CC Tryz.prog 39 (args_u48 l_ s_) (bin_u48 l_ s_) (res_u48 r) (bo_u48 l_ s_ r)
def st_u48_8 (y0 : List (T2).T) (y1 : Int) (y2 : T21.T) (y3 : List (T2).T) : St := ⟨mkS 75 [(0, .r (.ro T2 y0)), (3, .ptr 1000000 0 0), (7, .own 1000001 0), (8, .r (.v (.int .i64 y1)))], [(1000000, 0, .var 91 (rvs (enc T21 y2))), (1000001, 0, .row 87 T2 y3)]⟩
def f_u48_8 (k : Nat) : Nat → List (T2).T → Int → T21.T → List (T2).T → Option R_u48
  | 0, _, _, _, _ => none
  | j + 1, y0, y1, y2, y3 =>
  bif (decide (y1 < (↑y0.length : Int))) then
  if (0 ≤ y1) ∧ (y1 < (↑y0.length : Int)) then
  bif (decide (IntKind.i64.wrap ((if y2.1 > (y0.getD y1.toNat T2.dflt).1 then y2.1 else (y0.getD y1.toNat T2.dflt).1) - y2.1) < IntKind.i64.wrap ((if y2.2 < (y0.getD y1.toNat T2.dflt).2.1 then y2.2 else (y0.getD y1.toNat T2.dflt).2.1) - y2.1))) then
  if ((y3.length + [(IntKind.i64.wrap ((if y2.1 > (y0.getD y1.toNat T2.dflt).1 then y2.1 else (y0.getD y1.toNat T2.dflt).1) - y2.1), IntKind.i64.wrap ((if y2.2 < (y0.getD y1.toNat T2.dflt).2.1 then y2.2 else (y0.getD y1.toNat T2.dflt).2.1) - y2.1), (y0.getD y1.toNat T2.dflt).2.2)].length) * (40 : Nat) ≤ (140737488355328 : Nat)) then
  f_u48_8 k j y0 ((IntKind.i64.wrap (y1 + 1))) y2 ((y3 ++ [(IntKind.i64.wrap ((if y2.1 > (y0.getD y1.toNat T2.dflt).1 then y2.1 else (y0.getD y1.toNat T2.dflt).1) - y2.1), IntKind.i64.wrap ((if y2.2 < (y0.getD y1.toNat T2.dflt).2.1 then y2.2 else (y0.getD y1.toNat T2.dflt).2.1) - y2.1), (y0.getD y1.toNat T2.dflt).2.2)]))
  else none
  else
  f_u48_8 k j y0 ((IntKind.i64.wrap (y1 + 1))) y2 y3
  else none
  else
  some ((y3, 0))
def f_u48 (k : Nat) (l_ : List (T2).T) (s_ : T21.T) : Option R_u48 :=
  if ((f_u46 k l_).isSome = true) then
  bif (v_u46 k l_ != (0 : Int)) then
  some (([], v_u46 k l_))
  else
  bif (decide (s_.1 < (0 : Int)) || decide (s_.1 > s_.2) || decide (s_.2 > (17179869184 : Int))) then
  if ((decide (s_.1 < (0 : Int)) || decide (s_.1 > s_.2) || decide (s_.2 > (17179869184 : Int))) = true) then
  some (([], 1))
  else none
  else
  if ((decide (s_.1 < (0 : Int)) || decide (s_.1 > s_.2) || decide (s_.2 > (17179869184 : Int))) = false) ∧ ((f_u50 k l_).isSome = true) then
  bif (false || decide (s_.2 > v_u50 k l_)) then
  some (([], 1))
  else
  f_u48_8 k k l_ 0 s_ ([])
  else none
  else none
def v_u48 (k : Nat) (l_ : List (T2).T) (s_ : T21.T) : R_u48 := (f_u48 k l_ s_).getD ([], 0)
def ke_u48 (k : Nat) : Ke := (39, fun xs => match xs with
  | [_, _] => some [false, false]
  | _ => none, fun xs bs => match xs, bs with
  | [.r (.ro tl__ ql_), .agg qs_], [] => (castL tl__ T2 ql_).bind fun l_ => (decS [] T21 qs_).bind fun s_ => some (.one (res_u48 (v_u48 k l_ s_), bo_u48 l_ s_ (v_u48 k l_ s_)))
  | _, _ => none)
def cs_u48 : List (Nat × List Cmd) := [(8, [.row 7 87 T2, .autoB [0, 3, 7, 8] false []])]
abbrev E_u48 (l_ : List (T2).T) (s_ : T21.T) (todo : List Item) (st : St) (o : Option R_u48) : Prop := ∀ r, o = some r → Ev Tryz.prog Tryz.f39 0 todo st (res_u48 r) (bo_u48 l_ s_ r)
theorem ev_u48 (k : Nat) (l_ : List (T2).T) (s_ : T21.T) : ∀ j, (∀ (y0 : List (T2).T) (y1 : Int) (y2 : T21.T) (y3 : List (T2).T), E_u48 l_ s_ (placeAt Tryz.f39 8) (st_u48_8 y0 y1 y2 y3) (f_u48_8 k j y0 y1 y2 y3))
  | 0 => fun _ _ _ _ _ h => (nomatch h)
  | j + 1 => by
    have ih := @ev_u48 k l_ s_ j
    · intro y0 y1 y2 y3 r h
      rw [f_u48_8] at h
      exact go (mkK [ke_u46 k, ke_u50 k]) [] cs_u48 [.frz 4 false (RTy.list T2), .autoB [4, 5] true []] (gT h (fun c h => gN2 h fun h => gT h (fun c h => gN1 h id fun h => gC h 8 (ih _ _ _ _ _)) fun c h => gC h 8 (ih _ _ _ _ _)) fun c h => gL h) (by kernel_rfl)
theorem of_u48 (k : Nat) (l_ : List (T2).T) (s_ : T21.T) (r : R_u48) (h : f_u48 k l_ s_ = some r) : C_u48 l_ s_ r := by
  refine CC.of (fn := Tryz.f39) (by kernel_rfl) (by kernel_rfl) (by kernel_rfl) (by kernel_rfl) ?_
  unfold f_u48 at h
  exact go (mkK [ke_u46 k, ke_u50 k]) [] cs_u48 [.frz 4 false (RTy.list T2), .autoB [4, 5] true []] (gN1 h (fun q => cc_u46 q) fun h => gT h (fun c h => gL h) fun c h => gT h (fun c h => gN1 h id fun h => gU1 h (.cut 8 (placeAt Tryz.f39 8) ⟨mkS 75 [(0, .r (.ro T2 l_)), (3, .ptr 1000000 0 0), (7, .own 1000001 0), (8, .r (.v (.int .i64 0)))], [(1000000, 0, .var 91 (rvs (enc T21 s_))), (1000001, 0, .row 87 T2 ([]))]⟩) fun h => gL h) fun c h => gN h (fun q => conjC q.1 (conjC (cc_u50 q.2) conj0)) fun h => gT h (fun c h => gL h) fun c h => gC h 8 ((ev_u48 k l_ s_ k) _ _ _ _ _)) (by kernel_rfl)
theorem cc_u48 {k : Nat} {l_ : List (T2).T} {s_ : T21.T} (h : (f_u48 k l_ s_).isSome = true) : C_u48 l_ s_ (v_u48 k l_ s_) := ccG (Φ := C_u48 l_ s_) h (of_u48 k l_ s_)

end
/-! ### sections -/
abbrev Sec := Int × Int × Int × Int × Int   -- From, To, Kind, Grade, Phase
def secOne (s : Sec) : Int :=
  bif (decide (s.1 < (0 : Int)) || decide (s.1 ≥ s.2.1) || decide (s.2.1 > (17179869184 : Int))) then 1
  else bif (decide (s.2.2.1 < (1 : Int)) || decide (s.2.2.1 > (3 : Int))) then 17
  else bif (decide (s.2.2.2.1 < (-1 : Int)) || decide (s.2.2.2.1 ≥ (16 : Int))) then 22
  else bif (decide (s.2.2.2.2 < (0 : Int)) || decide (s.2.2.2.2 > (2048 : Int))) then 1 else 0
def secGo : List Sec → Int
  | [] => 0
  | x :: t => bif secOne x != 0 then secOne x else secGo t
def secOrd (e p : Int) : List Sec → Int
  | [] => 0
  | x :: t => bif (x.1 != e || decide (x.2.2.2.2 < p)) then 9 else secOrd x.2.1 x.2.2.2.2 t
def secE (l : List Sec) : Int := if l.length > 512 then 8 else if secGo l ≠ 0 then secGo l else secOrd 0 0 l
theorem checkOne_s (k : Nat) (s : Sec) : f_u59 k s = some (secOne s) := by
  unfold f_u59 secOne
  cases (decide (s.1 < (0 : Int)) || decide (s.1 ≥ s.2.1) || decide (s.2.1 > (17179869184 : Int)))
  · cases (decide (s.2.2.1 < (1 : Int)) || decide (s.2.2.1 > (3 : Int)))
    · cases (decide (s.2.2.2.1 < (-1 : Int)) || decide (s.2.2.2.1 ≥ (16 : Int)))
      · cases (decide (s.2.2.2.2 < (0 : Int)) || decide (s.2.2.2.2 > (2048 : Int))) <;> rfl
      · rfl
    · rfl
  · rfl
theorem checkOne_v (k : Nat) (s : Sec) : v_u59 k s = secOne s := by unfold v_u59; rw [checkOne_s]; rfl
structure SecOk (s : Sec) : Prop where
  f : 0 ≤ s.1
  ft : s.1 < s.2.1
  t : s.2.1 ≤ 17179869184
  p : 0 ≤ s.2.2.2.2
theorem secOne_zero {s : Sec} (h : secOne s = 0) : SecOk s := by
  unfold secOne at h
  cases h1 : (decide (s.1 < (0 : Int)) || decide (s.1 ≥ s.2.1) || decide (s.2.1 > (17179869184 : Int)))
  · rw [h1, cond_false] at h
    cases h2 : (decide (s.2.2.1 < (1 : Int)) || decide (s.2.2.1 > (3 : Int)))
    · rw [h2, cond_false] at h
      cases h3 : (decide (s.2.2.2.1 < (-1 : Int)) || decide (s.2.2.2.1 ≥ (16 : Int)))
      · rw [h3, cond_false] at h
        cases h4 : (decide (s.2.2.2.2 < (0 : Int)) || decide (s.2.2.2.2 > (2048 : Int)))
        · simp only [Bool.or_eq_false_iff, decide_eq_false_iff_not] at h1 h4
          exact ⟨by omega, by omega, by omega, by omega⟩
        · rw [h4] at h; cases h
      · rw [h3] at h; cases h
    · rw [h2] at h; cases h
  · rw [h1] at h; cases h
theorem secGo_zero : ∀ {l : List Sec}, secGo l = 0 → ∀ x ∈ l, SecOk x
  | [], _, x, hx => by simp at hx
  | y :: t, h, x, hx => by
    unfold secGo at h
    by_cases h1 : secOne y = 0
    · rw [show (secOne y != 0) = false by simp [h1], cond_false] at h
      rcases List.mem_cons.1 hx with e | hx'
      · rw [e]; exact secOne_zero h1
      · exact secGo_zero h x hx'
    · rw [bne_iff_ne.2 h1, cond_true] at h; exact absurd h h1
theorem reel_12 (k : Nat) (l : List Sec) (hl : l.length ≤ 512) : ∀ (d i j : Nat) (e p : Int), i + d = l.length → d < j → f_u55_12 k j e p l (l.length : Int) (i : Int) = some (secOrd e p (l.drop i)) := by
  intro d
  induction d with
  | zero =>
    intro i j e p hi hj
    obtain ⟨j, rfl⟩ : ∃ q, j = q + 1 := ⟨j - 1, by omega⟩
    rw [f_u55_12, decide_eq_false (by omega : ¬ (i : Int) < (l.length : Int)), cond_false, List.drop_of_length_le (by omega)]; rfl
  | succ d ih =>
    intro i j e p hi hj
    obtain ⟨j, rfl⟩ : ∃ q, j = q + 1 := ⟨j - 1, by omega⟩
    rw [f_u55_12, decide_eq_true (by omega : (i : Int) < (l.length : Int)), cond_true, if_pos ⟨by omega, by omega⟩, Int.toNat_natCast, wrapS i (by omega), drop_cons' l i T2.dflt (by omega), secOrd, ih (i + 1) j _ _ (by omega) (by omega)]
    cases ((l.getD i T2.dflt).1 != e || decide ((l.getD i T2.dflt).2.2.2.2 < p)) <;> rfl
theorem reel_4 (k : Nat) (l : List Sec) (hl : l.length ≤ 512) : ∀ (d i j : Nat), i + d = l.length → d + 600 < j → f_u55_4 k j l l (l.length : Int) (i : Int) = some (if secGo (l.drop i) ≠ 0 then secGo (l.drop i) else secOrd 0 0 l) := by
  intro d
  induction d with
  | zero =>
    intro i j hi hj
    obtain ⟨j, rfl⟩ : ∃ q, j = q + 1 := ⟨j - 1, by omega⟩
    rw [f_u55_4, decide_eq_false (by omega : ¬ (i : Int) < (l.length : Int)), cond_false, List.drop_of_length_le (by omega), secGo, if_neg (fun h => h rfl)]
    exact reel_12 k l hl l.length 0 j 0 0 (by omega) (by omega)
  | succ d ih =>
    intro i j hi hj
    obtain ⟨j, rfl⟩ : ∃ q, j = q + 1 := ⟨j - 1, by omega⟩
    rw [f_u55_4, decide_eq_true (by omega : (i : Int) < (l.length : Int)), cond_true, if_pos ⟨by omega, by omega⟩, Int.toNat_natCast, checkOne_s, checkOne_v, Option.isSome_some, if_pos rfl, wrapS i (by omega), drop_cons' l i T2.dflt (by omega), secGo, ih (i + 1) j (by omega) (by omega)]
    by_cases h : secOne (l.getD i T2.dflt) = 0
    · rw [show (secOne (l.getD i T2.dflt) != 0) = false by rw [h]; rfl, cond_false, cond_false]
    · rw [bne_iff_ne.2 h, cond_true, cond_true, if_pos h]
theorem reel_Check_s (k : Nat) (hk : 1200 ≤ k) (l : List Sec) : f_u55 k l = some (secE l) := by
  unfold f_u55 secE
  by_cases h : l.length > 512
  · rw [if_pos h, decide_eq_true (by omega : (l.length : Int) > 512)]; rfl
  · rw [if_neg h, decide_eq_false (by omega : ¬ (l.length : Int) > 512), cond_false]
    exact reel_4 k l (by omega) l.length 0 k (by omega) (by omega)
theorem reel_Check_v (k : Nat) (hk : 1200 ≤ k) (l : List Sec) : v_u55 k l = secE l := by
  unfold v_u55; rw [reel_Check_s k hk]; rfl
/-- the end and the phase before a section -/
def preE (l : List Sec) (i : Nat) : Int := if i = 0 then 0 else (l.getD (i - 1) T2.dflt).2.1
def preP (l : List Sec) (i : Nat) : Int := if i = 0 then 0 else (l.getD (i - 1) T2.dflt).2.2.2.2
theorem ref34_16 (k : Nat) (l : List Sec) (hl : l.length ≤ 512) (ho : ∀ x ∈ l, SecOk x) : ∀ (d i j : Nat), i + d = l.length → d < j → f_u46_16 k j l (i : Int) = some (secOrd (preE l i) (preP l i) (l.drop i)) := by
  intro d
  induction d with
  | zero =>
    intro i j hi hj
    obtain ⟨j, rfl⟩ : ∃ q, j = q + 1 := ⟨j - 1, by omega⟩
    rw [f_u46_16, decide_eq_false (by omega : ¬ (i : Int) < (l.length : Int)), cond_false, List.drop_of_length_le (by omega)]; rfl
  | succ d ih =>
    intro i j hi hj
    obtain ⟨j, rfl⟩ : ∃ q, j = q + 1 := ⟨j - 1, by omega⟩
    have h3 : (0 : Int) ≤ (i : Int) := by omega
    have h4 : (i : Int) < (l.length : Int) := by omega
    have hx := (ho (l.getD i T2.dflt) (gdm _ _ _ (by omega))).p
    have hw : (i : Int) > 0 → IntKind.i64.wrap ((i : Int) - 1) = ((i - 1 : Nat) : Int) := fun h => by rw [wrap_id (by omega) (by omega)]; omega
    have g1 : decide ((i : Int) > 0) = true → (0 : Int) ≤ IntKind.i64.wrap ((i : Int) - 1) := fun h => by rw [hw (of_decide_eq_true h)]; omega
    have g2 : decide ((i : Int) > 0) = true → IntKind.i64.wrap ((i : Int) - 1) < (l.length : Int) := fun h => by rw [hw (of_decide_eq_true h)]; omega
    rw [f_u46_16, decide_eq_true h4, cond_true, Int.toNat_natCast, if_pos ⟨fun _ => h3, fun _ => h4, fun _ _ => h3, fun _ _ => h4, fun _ h => g1 h, fun _ h => g2 h, fun _ _ _ => h3, fun _ _ _ => h4, fun _ h _ => g1 h, fun _ h _ => g2 h⟩, wrapS i (by omega), ih (i + 1) j (by omega) (by omega), drop_cons' l i T2.dflt (by omega), secOrd]
    have e1 : preE l (i + 1) = (l.getD i T2.dflt).2.1 := by unfold preE; rw [if_neg (by omega), Nat.add_sub_cancel]
    have e2 : preP l (i + 1) = (l.getD i T2.dflt).2.2.2.2 := by unfold preP; rw [if_neg (by omega), Nat.add_sub_cancel]
    rw [e1, e2]
    have hb : ((i : Int) == 0 && (l.getD i T2.dflt).1 != 0 || decide ((i : Int) > 0) && ((l.getD i T2.dflt).1 != (l.getD (IntKind.i64.wrap ((i : Int) - 1)).toNat T2.dflt).2.1 || decide ((l.getD i T2.dflt).2.2.2.2 < (l.getD (IntKind.i64.wrap ((i : Int) - 1)).toNat T2.dflt).2.2.2.2))) = ((l.getD i T2.dflt).1 != preE l i || decide ((l.getD i T2.dflt).2.2.2.2 < preP l i)) := by
      unfold preE preP
      by_cases h : i = 0
      · subst h
        rw [if_pos rfl, if_pos rfl, decide_eq_false (by omega : ¬ (l.getD 0 T2.dflt).2.2.2.2 < 0)]
        show (true && _ || false && _) = _
        rw [Bool.true_and, Bool.false_and]
      · have h' : (i : Int) > 0 := by omega
        rw [if_neg h, if_neg h, hw h', Int.toNat_natCast, decide_eq_true h', Bool.true_and, show ((i : Int) == 0) = false from beq_eq_false_iff_ne.2 (by omega), Bool.false_and, Bool.false_or]
    rw [hb]
    cases ((l.getD i T2.dflt).1 != preE l i || decide ((l.getD i T2.dflt).2.2.2.2 < preP l i)) <;> rfl
theorem ref34_4 (k : Nat) (l : List Sec) (hl : l.length ≤ 512) : ∀ (d i j : Nat), i + d = l.length → d + 600 < j → (∀ x ∈ l.take i, SecOk x) → f_u46_4 k j l (i : Int) = some (if secGo (l.drop i) ≠ 0 then secGo (l.drop i) else secOrd 0 0 l) := by
  intro d
  induction d with
  | zero =>
    intro i j hi hj ho
    obtain ⟨j, rfl⟩ : ∃ q, j = q + 1 := ⟨j - 1, by omega⟩
    rw [f_u46_4, decide_eq_false (by omega : ¬ (i : Int) < (l.length : Int)), cond_false, List.drop_of_length_le (by omega), secGo, if_neg (fun h => h rfl)]
    rw [List.take_of_length_le (by omega)] at ho
    exact ref34_16 k l hl ho l.length 0 j (by omega) (by omega)
  | succ d ih =>
    intro i j hi hj ho
    obtain ⟨j, rfl⟩ : ∃ q, j = q + 1 := ⟨j - 1, by omega⟩
    rw [f_u46_4, decide_eq_true (by omega : (i : Int) < (l.length : Int)), cond_true, if_pos ⟨by omega, by omega⟩, Int.toNat_natCast, wrapS i (by omega), drop_cons' l i T2.dflt (by omega), secGo]
    have ht : l.take (i + 1) = l.take i ++ [l.getD i T2.dflt] := by
      rw [List.take_add_one, List.getD_eq_getElem?_getD]
      rw [List.getElem?_eq_getElem (by omega)]; rfl
    by_cases h : secOne (l.getD i T2.dflt) = 0
    · rw [ih (i + 1) j (by omega) (by omega) (fun x hx => by
        rw [ht] at hx
        rcases List.mem_append.1 hx with hx | hx
        · exact ho x hx
        · rw [List.mem_singleton] at hx; rw [hx]; exact secOne_zero h)]
      rw [show (secOne (l.getD i T2.dflt) != 0) = false by rw [h]; rfl, cond_false]
      unfold secOne at h
      generalize l.getD i T2.dflt = s at *
      revert h
      cases (decide (s.1 < (0 : Int)) || decide (s.1 ≥ s.2.1) || decide (s.2.1 > (17179869184 : Int)))
      · cases (decide (s.2.2.1 < (1 : Int)) || decide (s.2.2.1 > (3 : Int)))
        · cases (decide (s.2.2.2.1 < (-1 : Int)) || decide (s.2.2.2.1 ≥ (16 : Int)))
          · cases (decide (s.2.2.2.2 < (0 : Int)) || decide (s.2.2.2.2 > (2048 : Int)))
            · intro _; rfl
            · intro h; cases h
          · intro h; cases h
        · intro h; cases h
      · intro h; cases h
    · rw [bne_iff_ne.2 h, cond_true, if_pos h]
      unfold secOne at h ⊢
      generalize l.getD i T2.dflt = s at *
      revert h
      cases (decide (s.1 < (0 : Int)) || decide (s.1 ≥ s.2.1) || decide (s.2.1 > (17179869184 : Int)))
      · cases (decide (s.2.2.1 < (1 : Int)) || decide (s.2.2.1 > (3 : Int)))
        · cases (decide (s.2.2.2.1 < (-1 : Int)) || decide (s.2.2.2.1 ≥ (16 : Int)))
          · cases (decide (s.2.2.2.2 < (0 : Int)) || decide (s.2.2.2.2 > (2048 : Int)))
            · intro h; exact absurd rfl h
            · intro _; rfl
          · intro _; rfl
        · intro _; rfl
      · intro _; rfl
theorem ref34_Check_s (k : Nat) (hk : 1200 ≤ k) (l : List Sec) : f_u46 k l = some (secE l) := by
  unfold f_u46 secE
  by_cases h : l.length > 512
  · rw [if_pos h, decide_eq_true (by omega : (l.length : Int) > 512)]; rfl
  · rw [if_neg h, decide_eq_false (by omega : ¬ (l.length : Int) > 512), cond_false]
    exact ref34_4 k l (by omega) l.length 0 k (by omega) (by omega) (fun x hx => by simp at hx)
theorem ref34_Check_v (k : Nat) (hk : 1200 ≤ k) (l : List Sec) : v_u46 k l = secE l := by
  unfold v_u46; rw [ref34_Check_s k hk]; rfl
theorem secE_zero {l : List Sec} (h : secE l = 0) : l.length ≤ 512 ∧ (∀ x ∈ l, SecOk x) ∧ secOrd 0 0 l = 0 := by
  unfold secE at h
  by_cases h1 : l.length > 512
  · rw [if_pos h1] at h; omega
  · rw [if_neg h1] at h
    by_cases h2 : secGo l = 0
    · rw [if_neg (fun h => h h2)] at h
      exact ⟨by omega, secGo_zero h2, h⟩
    · rw [if_pos h2] at h; exact absurd h h2
/-- where the sections end -/
def endS (l : List Sec) : Int := if l.length = 0 then 0 else (l.getD (l.length - 1) T2.dflt).2.1
/-- the parts of a span -/
def prt1 (s : Sp) (x : Sec) : List Sec := if max x.1 s.1 - s.1 < min x.2.1 s.2 - s.1 then [(max x.1 s.1 - s.1, min x.2.1 s.2 - s.1, x.2.2)] else []
def prtL (s : Sp) : List Sec → List Sec
  | [] => []
  | x :: t => prt1 s x ++ prtL s t
theorem prtL_len (s : Sp) : ∀ l : List Sec, (prtL s l).length ≤ l.length
  | [] => Nat.le_refl _
  | x :: t => by
    have := prtL_len s t
    unfold prtL prt1
    rw [List.length_append, List.length_cons]
    split <;> simp <;> omega
theorem end_idx {l : List Sec} (hl : l.length ≤ 512) (h0 : l.length ≠ 0) : IntKind.i64.wrap ((l.length : Int) - 1) = ((l.length - 1 : Nat) : Int) := by
  rw [wrap_id (by omega) (by omega)]; omega
theorem ref34_end_s (k : Nat) {l : List Sec} (hl : l.length ≤ 512) : f_u50 k l = some (endS l) := by
  unfold f_u50 endS
  by_cases h : l.length = 0
  · rw [if_pos h, show ((l.length : Int) == 0) = true from beq_iff_eq.2 (by omega), cond_true]
  · rw [if_neg h, show ((l.length : Int) == 0) = false from beq_eq_false_iff_ne.2 (by omega), cond_false, end_idx hl h, if_pos ⟨by omega, by omega⟩, Int.toNat_natCast]
theorem ref34_end_v (k : Nat) {l : List Sec} (hl : l.length ≤ 512) : v_u50 k l = endS l := by unfold v_u50; rw [ref34_end_s k hl]; rfl
theorem maxI_if (a b : Int) : (if a > b then a else b) = max b a := by split <;> omega
theorem minI_if (a b : Int) : (if a < b then a else b) = min b a := by split <;> omega
theorem prt_step {s : Sp} (h0 : 0 ≤ s.1) (h1 : s.2 ≤ 17179869184) {x : Sec} (ok : SecOk x) : IntKind.i64.wrap ((if s.1 > x.1 then s.1 else x.1) - s.1) = max x.1 s.1 - s.1 ∧ IntKind.i64.wrap ((if s.2 < x.2.1 then s.2 else x.2.1) - s.1) = min x.2.1 s.2 - s.1 ∨ s.2 < s.1 := by
  obtain ⟨a, b, c, d⟩ := ok
  by_cases h : s.2 < s.1
  · exact .inr h
  · left
    rw [maxI_if, minI_if]
    exact ⟨wrap_id (by omega) (by omega), wrap_id (by omega) (by omega)⟩
theorem Parts_11 (k : Nat) {s : Sp} (h0 : 0 ≤ s.1) (hs : s.1 ≤ s.2) (h1 : s.2 ≤ 17179869184) (l : List Sec) (hl : l.length ≤ 512) (ho : ∀ x ∈ l, SecOk x) : ∀ (d i j : Nat) (out : List Sec), i + d = l.length → d < j → out.length ≤ i → f_u58_11 k j l (l.length : Int) (i : Int) s out = some (out ++ prtL s (l.drop i), 0) := by
  intro d
  induction d with
  | zero =>
    intro i j out hi hj ho'
    obtain ⟨j, rfl⟩ : ∃ q, j = q + 1 := ⟨j - 1, by omega⟩
    rw [f_u58_11, decide_eq_false (by omega : ¬ (i : Int) < (l.length : Int)), cond_false, List.drop_of_length_le (by omega), prtL, List.append_nil]
  | succ d ih =>
    intro i j out hi hj ho'
    obtain ⟨j, rfl⟩ : ∃ q, j = q + 1 := ⟨j - 1, by omega⟩
    rcases prt_step h0 h1 (ho (l.getD i T2.dflt) (gdm _ _ _ (by omega))) with ⟨e1, e2⟩ | h
    · rw [f_u58_11, decide_eq_true (by omega : (i : Int) < (l.length : Int)), cond_true, if_pos ⟨by omega, by omega⟩, Int.toNat_natCast, wrapS i (by omega), e1, e2, drop_cons' l i T2.dflt (by omega), prtL, if_pos (by rw [List.length_singleton]; omega), ih (i + 1) j _ (by omega) (by omega) (by rw [List.length_append, List.length_singleton]; omega), ih (i + 1) j out (by omega) (by omega) (by omega)]
      unfold prt1
      by_cases h : max (l.getD i T2.dflt).1 s.1 - s.1 < min (l.getD i T2.dflt).2.1 s.2 - s.1
      · rw [decide_eq_true h, cond_true, if_pos h, List.append_assoc]
      · rw [decide_eq_false h, cond_false, if_neg h, List.nil_append]
    · omega
theorem reel_Parts_s (k : Nat) (hk : 1200 ≤ k) {l : List Sec} (hz : secE l = 0) {s : Sp} (h0 : 0 ≤ s.1) (hs : s.1 ≤ s.2) (h1 : s.2 ≤ 17179869184) (h2 : s.2 ≤ endS l) : f_u58 k l s = some (prtL s l, 0) := by
  obtain ⟨hl, ho, _⟩ := secE_zero hz
  have hp := Parts_11 k h0 hs h1 l hl ho l.length 0 k [] (by omega) (by omega) (by simp)
  unfold f_u58
  rw [reel_Check_s k hk, reel_Check_v k hk, hz, Option.isSome_some, if_pos rfl, bne_self_eq_false, cond_false]
  by_cases h : l.length = 0
  · have he : endS l = 0 := by unfold endS; rw [if_pos h]
    rw [decide_eq_false (by omega : ¬ (l.length : Int) > 0), cond_false, decide_eq_false (by omega : ¬ s.1 < 0), decide_eq_false (by omega : ¬ s.1 > s.2), decide_eq_false (by omega : ¬ s.2 > 0)]
    exact hp
  · have he : endS l = (l.getD (l.length - 1) T2.dflt).2.1 := by unfold endS; rw [if_neg h]
    rw [decide_eq_true (by omega : (l.length : Int) > 0), cond_true, end_idx hl h, if_pos ⟨by omega, by omega⟩, Int.toNat_natCast, ← he, decide_eq_false (by omega : ¬ s.1 < 0), decide_eq_false (by omega : ¬ s.1 > s.2), decide_eq_false (by omega : ¬ s.2 > endS l)]
    exact hp
theorem PartsR_8 (k : Nat) {s : Sp} (h0 : 0 ≤ s.1) (hs : s.1 ≤ s.2) (h1 : s.2 ≤ 17179869184) (l : List Sec) (hl : l.length ≤ 512) (ho : ∀ x ∈ l, SecOk x) : ∀ (d i j : Nat) (out : List Sec), i + d = l.length → d < j → out.length ≤ i → f_u48_8 k j l (i : Int) s out = some (out ++ prtL s (l.drop i), 0) := by
  intro d
  induction d with
  | zero =>
    intro i j out hi hj ho'
    obtain ⟨j, rfl⟩ : ∃ q, j = q + 1 := ⟨j - 1, by omega⟩
    rw [f_u48_8, decide_eq_false (by omega : ¬ (i : Int) < (l.length : Int)), cond_false, List.drop_of_length_le (by omega), prtL, List.append_nil]
  | succ d ih =>
    intro i j out hi hj ho'
    obtain ⟨j, rfl⟩ : ∃ q, j = q + 1 := ⟨j - 1, by omega⟩
    rcases prt_step h0 h1 (ho (l.getD i T2.dflt) (gdm _ _ _ (by omega))) with ⟨e1, e2⟩ | h
    · rw [f_u48_8, decide_eq_true (by omega : (i : Int) < (l.length : Int)), cond_true, if_pos ⟨by omega, by omega⟩, Int.toNat_natCast, wrapS i (by omega), e1, e2, drop_cons' l i T2.dflt (by omega), prtL, if_pos (by rw [List.length_singleton]; omega), ih (i + 1) j _ (by omega) (by omega) (by rw [List.length_append, List.length_singleton]; omega), ih (i + 1) j out (by omega) (by omega) (by omega)]
      unfold prt1
      by_cases h : max (l.getD i T2.dflt).1 s.1 - s.1 < min (l.getD i T2.dflt).2.1 s.2 - s.1
      · rw [decide_eq_true h, cond_true, if_pos h, List.append_assoc]
      · rw [decide_eq_false h, cond_false, if_neg h, List.nil_append]
    · omega
theorem ref34_Parts_s (k : Nat) (hk : 1200 ≤ k) {l : List Sec} (hz : secE l = 0) {s : Sp} (h0 : 0 ≤ s.1) (hs : s.1 ≤ s.2) (h1 : s.2 ≤ 17179869184) (h2 : s.2 ≤ endS l) : f_u48 k l s = some (prtL s l, 0) := by
  obtain ⟨hl, ho, _⟩ := secE_zero hz
  have hp := PartsR_8 k h0 hs h1 l hl ho l.length 0 k [] (by omega) (by omega) (by simp)
  have hc : (decide (s.1 < (0 : Int)) || decide (s.1 > s.2) || decide (s.2 > (17179869184 : Int))) = false := by
    rw [decide_eq_false (by omega : ¬ s.1 < 0), decide_eq_false (by omega : ¬ s.1 > s.2), decide_eq_false (by omega : ¬ s.2 > 17179869184)]; rfl
  unfold f_u48
  rw [ref34_Check_s k hk, ref34_Check_v k hk, hz, Option.isSome_some, if_pos rfl, bne_self_eq_false, cond_false, hc, cond_false, ref34_end_s k hl, ref34_end_v k hl, if_pos ⟨rfl, rfl⟩, decide_eq_false (by omega : ¬ s.2 > endS l)]
  exact hp
/-- Parts, for any span that begins at 0 -/
def partsE (l : List Sec) (e : Int) : List Sec × Int := if 0 ≤ e ∧ e ≤ endS l then (prtL (0, e) l, 0) else ([], 1)
theorem endS_le {l : List Sec} (hz : secE l = 0) : endS l ≤ 17179869184 := by
  obtain ⟨_, ho, _⟩ := secE_zero hz
  unfold endS
  by_cases h : l.length = 0
  · rw [if_pos h]; omega
  · rw [if_neg h]; exact (ho _ (gdm _ _ _ (by omega))).t
theorem Parts_any (k : Nat) (hk : 1200 ≤ k) {l : List Sec} (hz : secE l = 0) (e : Int) : f_u58 k l (0, e) = some (partsE l e) := by
  unfold partsE
  have hle := endS_le hz
  by_cases h : 0 ≤ e ∧ e ≤ endS l
  · rw [if_pos h]; exact reel_Parts_s k hk hz (by omega) h.1 (by show e ≤ _; omega) h.2
  · rw [if_neg h]
    obtain ⟨hl, ho, _⟩ := secE_zero hz
    unfold f_u58
    rw [reel_Check_s k hk, reel_Check_v k hk, hz, Option.isSome_some, if_pos rfl, bne_self_eq_false, cond_false]
    by_cases h0 : l.length = 0
    · have he : endS l = 0 := by unfold endS; rw [if_pos h0]
      have hb : (decide ((0 : Int) < (0 : Int)) || decide ((0 : Int) > e) || decide (e > (0 : Int))) = true := by
        by_cases h1 : e > 0
        · rw [decide_eq_true h1, Bool.or_true]
        · rw [decide_eq_true (by omega : (0 : Int) > e), Bool.or_true, Bool.true_or]
      rw [decide_eq_false (by omega : ¬ (l.length : Int) > 0), cond_false]
      show (bif (decide ((0 : Int) < (0 : Int)) || decide ((0 : Int) > e) || decide (e > (0 : Int))) then _ else _) = _
      rw [hb]; rfl
    · have he : endS l = (l.getD (l.length - 1) T2.dflt).2.1 := by unfold endS; rw [if_neg h0]
      have hb : (decide ((0 : Int) < (0 : Int)) || decide ((0 : Int) > e) || decide (e > endS l)) = true := by
        by_cases h1 : e > endS l
        · rw [decide_eq_true h1, Bool.or_true]
        · rw [decide_eq_true (by omega : (0 : Int) > e), Bool.or_true, Bool.true_or]
      rw [decide_eq_true (by omega : (l.length : Int) > 0), cond_true, end_idx hl h0, if_pos ⟨by omega, by omega⟩, Int.toNat_natCast, ← he]
      show (bif (decide ((0 : Int) < (0 : Int)) || decide ((0 : Int) > e) || decide (e > endS l)) then _ else _) = _
      rw [hb]; rfl
theorem Parts_anyv (k : Nat) (hk : 1200 ≤ k) {l : List Sec} (hz : secE l = 0) (e : Int) : v_u58 k l (0, e) = partsE l e := by
  unfold v_u58; rw [Parts_any k hk hz e]; rfl
theorem PartsR_any (k : Nat) (hk : 1200 ≤ k) {l : List Sec} (hz : secE l = 0) (e : Int) : f_u48 k l (0, e) = some (partsE l e) := by
  unfold partsE
  have hle := endS_le hz
  by_cases h : 0 ≤ e ∧ e ≤ endS l
  · rw [if_pos h]; exact ref34_Parts_s k hk hz (by omega) h.1 (by show e ≤ _; omega) h.2
  · rw [if_neg h]
    obtain ⟨hl, ho, _⟩ := secE_zero hz
    unfold f_u48
    rw [ref34_Check_s k hk, ref34_Check_v k hk, hz, Option.isSome_some, if_pos rfl, bne_self_eq_false, cond_false]
    show (bif (decide ((0 : Int) < (0 : Int)) || decide ((0 : Int) > e) || decide (e > (17179869184 : Int))) then _ else _) = _
    cases hb : (decide ((0 : Int) < (0 : Int)) || decide ((0 : Int) > e) || decide (e > (17179869184 : Int)))
    · have h1 : e > endS l := by
        simp only [Bool.or_eq_false_iff, decide_eq_false_iff_not] at hb
        omega
      rw [cond_false]
      rw [ref34_end_s k hl, ref34_end_v k hl, if_pos ⟨rfl, rfl⟩]
      show (bif (false || decide (e > endS l)) then _ else _) = _
      rw [decide_eq_true h1]; rfl
    · rw [cond_true]
      rw [if_pos rfl]
theorem PartsR_anyv (k : Nat) (hk : 1200 ≤ k) {l : List Sec} (hz : secE l = 0) (e : Int) : v_u48 k l (0, e) = partsE l e := by
  unfold v_u48; rw [PartsR_any k hk hz e]; rfl
end Go.AM
namespace Go.AM
open Go Go.Proofs
noncomputable section
abbrev R_u61 : Type := List (T2).T
def res_u61 (r : R_u61) : AV := .fn ((Fn.func 172)) [] [.ptr 0 0 0]
def bo_u61 (l_ : List (T2).T) (r : R_u61) : List (Nat × Blk) := [(0, .var 24 [.r (.ro T2 r)])]
def args_u61 (l_ : List (T2).T) : List AV := [.r (.ro T2 l_)]
def bin_u61 (l_ : List (T2).T) : List Blk := []
abbrev C_u61 (l_ : List (T2).T) (r : R_u61) : Prop := CC Tryz.prog 125 (args_u61 l_) (bin_u61 l_) (res_u61 r) (bo_u61 l_ r)
def f_u61 (k : Nat) (l_ : List (T2).T) : Option R_u61 :=
  some l_
def v_u61 (k : Nat) (l_ : List (T2).T) : R_u61 := (f_u61 k l_).getD []
def ke_u61 (k : Nat) : Ke := (125, fun xs => match xs with
  | [_] => some [false]
  | _ => none, fun xs bs => match xs, bs with
  | [.r (.ro tl__ ql_)], [] => (castL tl__ T2 ql_).bind fun l_ => some (.one (res_u61 (v_u61 k l_), bo_u61 l_ (v_u61 k l_)))
  | _, _ => none)
theorem of_u61 (k : Nat) (l_ : List (T2).T) (r : R_u61) (h : f_u61 k l_ = some r) : C_u61 l_ r := by
  refine CC.of (fn := Tryz.f125) (by kernel_rfl) (by kernel_rfl) (by kernel_rfl) (by kernel_rfl) ?_
  unfold f_u61 at h
  exact go (mkK []) [] [] [.autoB [2] true []] (gL h) (by kernel_rfl)
theorem cc_u61 {k : Nat} {l_ : List (T2).T} (h : (f_u61 k l_).isSome = true) : C_u61 l_ (v_u61 k l_) := ccG (Φ := C_u61 l_) h (of_u61 k l_)
abbrev R_u56 : Type := List (T21).T × List (T21).T × Int
def res_u56 (r : R_u56) : AV := .tup [.r (.ro T21 r.1), .r (.ro T21 r.2.1), .r (.v (.int .i64 r.2.2))]
def bo_u56 (l_ : List (T2).T) (turns_ : List (I).T) (least_ : Int) (r : R_u56) : List (Nat × Blk) := []
def args_u56 (l_ : List (T2).T) (turns_ : List (I).T) (least_ : Int) : List AV := [.r (.ro T2 l_), .r (.ro I turns_), .r (.v (.int .i64 least_))]
def bin_u56 (l_ : List (T2).T) (turns_ : List (I).T) (least_ : Int) : List Blk := []
abbrev C_u56 (l_ : List (T2).T) (turns_ : List (I).T) (least_ : Int) (r : R_u56) : Prop := CC Tryz.prog 81 (args_u56 l_ turns_ least_) (bin_u56 l_ turns_ least_) (res_u56 r) (bo_u56 l_ turns_ least_ r)
def f_u56 (k : Nat) (l_ : List (T2).T) (turns_ : List (I).T) (least_ : Int) : Option R_u56 :=
  if ((f_u55 k l_).isSome = true) then
  bif (v_u55 k l_ != (0 : Int)) then
  some (([], [], v_u55 k l_))
  else
  bif (decide (least_ < (1 : Int)) || decide (least_ > (17179869184 : Int))) then
  some (([], [], 1))
  else
  if ((f_u60 k turns_).isSome = true) then
  bif (v_u60 k turns_ != (0 : Int)) then
  some (([], [], v_u60 k turns_))
  else
  if ((f_u61 k l_).isSome = true) then
  if ((f_u62 k turns_ least_ [] [] (v_u61 k l_)).isSome = true) then
  some (((v_u62 k turns_ least_ [] [] (v_u61 k l_)).1, (v_u62 k turns_ least_ [] [] (v_u61 k l_)).2, 0))
  else none
  else none
  else none
  else none
def v_u56 (k : Nat) (l_ : List (T2).T) (turns_ : List (I).T) (least_ : Int) : R_u56 := (f_u56 k l_ turns_ least_).getD ([], [], 0)
def ke_u56 (k : Nat) : Ke := (81, fun xs => match xs with
  | [_, _, _] => some [false, false, false]
  | _ => none, fun xs bs => match xs, bs with
  | [.r (.ro tl__ ql_), .r (.ro tturns__ qturns_), .r (.v (.int .i64 least_))], [] => (castL tl__ T2 ql_).bind fun l_ => (castL tturns__ I qturns_).bind fun turns_ => some (.one (res_u56 (v_u56 k l_ turns_ least_), bo_u56 l_ turns_ least_ (v_u56 k l_ turns_ least_)))
  | _, _ => none)
theorem of_u56 (k : Nat) (l_ : List (T2).T) (turns_ : List (I).T) (least_ : Int) (r : R_u56) (h : f_u56 k l_ turns_ least_ = some r) : C_u56 l_ turns_ least_ r := by
  refine CC.of (fn := Tryz.f81) (by kernel_rfl) (by kernel_rfl) (by kernel_rfl) (by kernel_rfl) ?_
  unfold f_u56 at h
  exact go (mkK [ke_u55 k, ke_u60 k, ke_u61 k, ke_u57 k, ke_u62 k]) [] [(15, [.autoB [13, 15, 40, 41, 42] false []])] [.frz 6 false (RTy.list T21), .frz 7 false (RTy.list T21), .autoB [6, 7, 8] true []] (gN1 h (fun q => cc_u55 q) fun h => gT h (fun c h => gL h) fun c h => gT h (fun c h => gL h) fun c h => gN1 h (fun q => cc_u60 q) fun h => gT h (fun c h => gL h) fun c h => gN1 h (fun q => cc_u61 q) fun h => gN1 h (fun q => cc_u62 q) fun h => gL h) (by kernel_rfl)
theorem cc_u56 {k : Nat} {l_ : List (T2).T} {turns_ : List (I).T} {least_ : Int} (h : (f_u56 k l_ turns_ least_).isSome = true) : C_u56 l_ turns_ least_ (v_u56 k l_ turns_ least_) := ccG (Φ := C_u56 l_ turns_ least_) h (of_u56 k l_ turns_ least_)

end
/-! ### Cut, whole -/
abbrev CutR := List (Int × Int) × List (Int × Int) × Int
def leastB (n : Int) : Bool := decide (n < (1 : Int)) || decide (n > (17179869184 : Int))
def cutE (l : List Sec) (turns : List Int) (least : Int) : CutR :=
  if secE l ≠ 0 then ([], [], secE l) else if leastB least = true then ([], [], 1) else if turnE turns ≠ 0 then ([], [], turnE turns)
  else ((cutsS turns least ([], []) (strGo none l)).1, (cutsS turns least ([], []) (strGo none l)).2, 0)
theorem sec_inW {l : List Sec} (hz : secE l = 0) : ∀ x ∈ l, inW x.1 ∧ inW x.2.1 := fun x hx => by
  have h := (secE_zero hz).2.1 x hx
  have := h.f; have := h.ft; have := h.t
  unfold inW; omega
theorem cutE_sec {l : List Sec} {turns : List Int} {least : Int} (h : secE l ≠ 0) : cutE l turns least = ([], [], secE l) := by unfold cutE; rw [if_pos h]
theorem cutE_least {l : List Sec} {turns : List Int} {least : Int} (h : secE l = 0) (h2 : leastB least = true) : cutE l turns least = ([], [], 1) := by unfold cutE; rw [if_neg (fun x => x h), if_pos h2]
theorem cutE_turn {l : List Sec} {turns : List Int} {least : Int} (h : secE l = 0) (h2 : leastB least = false) (h3 : turnE turns ≠ 0) : cutE l turns least = ([], [], turnE turns) := by
  unfold cutE; rw [if_neg (fun x => x h), h2, if_neg Bool.false_ne_true, if_pos h3]
theorem cutE_ok {l : List Sec} {turns : List Int} {least : Int} (h : secE l = 0) (h2 : leastB least = false) (h3 : turnE turns = 0) : cutE l turns least = ((cutsS turns least ([], []) (strGo none l)).1, (cutsS turns least ([], []) (strGo none l)).2, 0) := by
  unfold cutE; rw [if_neg (fun x => x h), h2, if_neg Bool.false_ne_true, if_neg (fun x => x h3)]
theorem reel_Cut_s (k : Nat) (hk : 2000 ≤ k) (l : List Sec) (turns : List Int) (least : Int) : f_u56 k l turns least = some (cutE l turns least) := by
  unfold f_u56
  rw [reel_Check_s k (by omega), reel_Check_v k (by omega), Option.isSome_some, if_pos rfl]
  by_cases hz : secE l = 0
  · rw [hz, bne_self_eq_false, cond_false]
    show (bif leastB least then _ else _) = _
    cases hl : leastB least
    · rw [cond_false, checkTurns_s k (by omega), checkTurns_v k (by omega), Option.isSome_some, if_pos rfl]
      by_cases ht : turnE turns = 0
      · obtain ⟨t1, t2⟩ := turnE_zero ht
        have hs := str_s k hk turns least l (secE_zero hz).1 t1 t2 (sec_inW hz)
        have hv := str_v k hk turns least l (secE_zero hz).1 t1 t2 (sec_inW hz)
        rw [cutE_ok hz hl ht, ht, bne_self_eq_false, cond_false]
        have e : v_u61 k l = l := rfl
        have e2 : f_u61 k l = some l := rfl
        rw [e, e2, Option.isSome_some, if_pos rfl, hs, hv, Option.isSome_some, if_pos rfl]
      · rw [cutE_turn hz hl ht, bne_iff_ne.2 ht, cond_true]
    · rw [cond_true, cutE_least hz hl]
  · rw [cutE_sec hz, bne_iff_ne.2 hz, cond_true]
theorem reel_Cut_v (k : Nat) (hk : 2000 ≤ k) (l : List Sec) (turns : List Int) (least : Int) : v_u56 k l turns least = cutE l turns least := by
  unfold v_u56; rw [reel_Cut_s k hk]; rfl
theorem ref_Cut_s (k : Nat) (hk : 10000 ≤ k) (l : List Sec) (turns : List Int) (least : Int) (hl : l.length ≤ 90) (hn : turns.length ≤ 40) : f_u47 k l turns least = some (cutE l turns least) := by
  unfold f_u47
  rw [ref34_Check_s k (by omega), ref34_Check_v k (by omega), Option.isSome_some, if_pos rfl]
  by_cases hz : secE l = 0
  · rw [hz, bne_self_eq_false, cond_false]
    show (bif leastB least then _ else _) = _
    cases hlb : leastB least
    · rw [cond_false, turnups_s k (by omega), turnups_v k (by omega), Option.isSome_some, if_pos rfl]
      by_cases ht : turnE turns = 0
      · obtain ⟨t1, t2⟩ := turnE_zero ht
        have hsl := strGo_len l none
        have hin := strGo_in inW l none (sec_inW hz) (fun a h => by cases h)
        have := rc_12 k turns least (strGo none l) (by omega) hn t2 hin (strGo none l).length 0 k ([], []) (by omega) (by omega) (by simp; omega)
        rw [cutE_ok hz hlb ht, ht, bne_self_eq_false, cond_false, stretches_s k (by omega) l (by omega), stretches_v k (by omega) l (by omega), Option.isSome_some, if_pos rfl]
        exact this
      · rw [cutE_turn hz hlb ht, bne_iff_ne.2 ht, cond_true]
    · rw [cond_true, cutE_least hz hlb]
  · rw [cutE_sec hz, bne_iff_ne.2 hz, cond_true]
theorem ref_Cut_v (k : Nat) (hk : 10000 ≤ k) (l : List Sec) (turns : List Int) (least : Int) (hl : l.length ≤ 90) (hn : turns.length ≤ 40) : v_u47 k l turns least = cutE l turns least := by
  unfold v_u47; rw [ref_Cut_s k hk l turns least hl hn]; rfl
theorem prtL_length (e : Int) (l : List Sec) : (partsE l e).1.length ≤ l.length := by
  unfold partsE
  split
  · exact prtL_len (0, e) l
  · simp
/-- the reels have at most as many as there are pieces -/
theorem cutE_len (l : List Sec) (turns : List Int) (least : Int) : (cutE l turns least).1.length ≤ (l.length + 1) * (turns.length + 1) := by
  unfold cutE
  split
  · simp
  · split
    · simp
    · split
      · simp
      · have h1 := cutsS_len turns least (strGo none l) ([], [])
        have h2 := strGo_len l none
        have h3 : (strGo none l).length * (turns.length + 1) ≤ (l.length + 1) * (turns.length + 1) := Nat.mul_le_mul_right _ h2
        simp only [List.length_nil] at h1
        show (cutsS turns least ([], []) (strGo none l)).1.length ≤ _
        omega
end Go.AM
namespace Go.AM
open Go Go.Proofs
noncomputable section
abbrev R_u44 : Type := Bool
def res_u44 (r : R_u44) : AV := .r (.v (.bool r))
def bo_u44 (b_ : T17.T) (r : R_u44) : List (Nat × Blk) := []
def args_u44 (b_ : T17.T) : List AV := [.agg (rvs (enc T17 b_))]
def bin_u44 (b_ : T17.T) : List Blk := []
abbrev C_u44 (b_ : T17.T) (r : R_u44) : Prop := CC Tryz.prog 11 (args_u44 b_) (bin_u44 b_) (res_u44 r) (bo_u44 b_ r)
def st_u44_4 (y0 : Int) (y1 : List (T9).T) (y2 : Int) (y3 : Int) (y4 : T17.T) : St := ⟨mkS 105 [(1, .ptr 1000000 0 0), (3, .r (.v (.int .i64 y0))), (60, .r (.ro T9 y1)), (61, .r (.v (.int .i64 y2))), (62, .r (.v (.int .i64 y3)))], [(1000000, 0, .var 36 (rvs (enc T17 y4)))]⟩
def st_u44_9 (y0 : Int) (y1 : List (T11).T) (y2 : Int) (y3 : Int) (y4 : T17.T) : St := ⟨mkS 105 [(1, .ptr 1000000 0 0), (3, .r (.v (.int .i64 y0))), (76, .r (.ro T11 y1)), (77, .r (.v (.int .i64 y2))), (78, .r (.v (.int .i64 y3)))], [(1000000, 0, .var 36 (rvs (enc T17 y4)))]⟩
def st_u44_14 (y0 : Int) (y1 : List (T5).T) (y2 : Int) (y3 : Int) : St := ⟨mkS 105 [(3, .r (.v (.int .i64 y0))), (89, .r (.ro T5 y1)), (90, .r (.v (.int .i64 y2))), (91, .r (.v (.int .i64 y3)))], []⟩
mutual
def f_u44_4 (k : Nat) : Nat → Int → List (T9).T → Int → Int → T17.T → Option R_u44
  | 0, _, _, _, _, _ => none
  | j + 1, y0, y1, y2, y3, y4 =>
  bif (decide (y3 < y2)) then
  if (0 ≤ y3) ∧ (y3 < (↑y1.length : Int)) then
  f_u44_4 k j ((imx (imx y0 (↑ (List.length (y1.getD y3.toNat T9.dflt).2.1) : Int)) (↑ (List.length (y1.getD y3.toNat T9.dflt).2.2.1) : Int))) y1 y2 ((IntKind.i64.wrap (y3 + 1))) y4
  else none
  else
  f_u44_9 k j y0 y4.2.2.2.2.2.2.2.2.2.2.2.2.2.2.2.2.2.1 ((↑ (List.length y4.2.2.2.2.2.2.2.2.2.2.2.2.2.2.2.2.2.1) : Int)) 0 y4
def f_u44_9 (k : Nat) : Nat → Int → List (T11).T → Int → Int → T17.T → Option R_u44
  | 0, _, _, _, _, _ => none
  | j + 1, y0, y1, y2, y3, y4 =>
  bif (decide (y3 < y2)) then
  if (0 ≤ y3) ∧ (y3 < (↑y1.length : Int)) then
  f_u44_9 k j ((if (↑ (List.length (y1.getD y3.toNat T11.dflt).2.2) : Int) > y0 then (↑ (List.length (y1.getD y3.toNat T11.dflt).2.2) : Int) else y0)) y1 y2 ((IntKind.i64.wrap (y3 + 1))) y4
  else none
  else
  f_u44_14 k j y0 y4.2.2.2.2.2.2.2.2.2.2.2.1 ((↑ (List.length y4.2.2.2.2.2.2.2.2.2.2.2.1) : Int)) 0
def f_u44_14 (k : Nat) : Nat → Int → List (T5).T → Int → Int → Option R_u44
  | 0, _, _, _, _ => none
  | j + 1, y0, y1, y2, y3 =>
  bif (decide (y3 < y2)) then
  if (0 ≤ y3) ∧ (y3 < (↑y1.length : Int)) then
  f_u44_14 k j ((if IntKind.i64.wrap (2 * (↑ (List.length (y1.getD y3.toNat T5.dflt).2.2.2.2.2) : Int)) > y0 then IntKind.i64.wrap (2 * (↑ (List.length (y1.getD y3.toNat T5.dflt).2.2.2.2.2) : Int)) else y0)) y1 y2 ((IntKind.i64.wrap (y3 + 1)))
  else none
  else
  some (decide (y0 > 40))
end
def f_u44 (k : Nat) (b_ : T17.T) : Option R_u44 :=
  if ((4 : Int) ≠ (0 : Int)) then
  f_u44_4 k (k + (List.length b_.2.2.2.2.2.2.2.2.2.2.2.2.2.2.2.1 + (List.length b_.2.2.2.2.2.2.2.2.2.2.2.2.2.2.2.2.2.1 + List.length b_.2.2.2.2.2.2.2.2.2.2.2.1))) ((imx (imx (imx (imx (imx (imx (imx (imx (imx (imx (imx (imx (imx (imx (↑ (List.length b_.2.2.2.2.2.2.2.1) : Int) (↑ (List.length b_.2.2.2.2.2.2.2.2.2.1) : Int)) (↑ (List.length b_.2.2.2.2.2.2.2.2.2.2.1) : Int)) (↑ (List.length b_.2.2.2.2.2.2.2.2.2.2.2.1) : Int)) (↑ (List.length b_.2.2.2.2.2.2.2.2.2.2.2.2.1) : Int)) (↑ (List.length b_.2.2.2.2.2.2.2.2.2.2.2.2.2.1) : Int)) (↑ (List.length b_.2.2.2.2.2.2.2.2.2.2.2.2.2.2.1) : Int)) (IntKind.i64.wrap ((↑ (List.length b_.2.2.2.2.2.2.2.2.1) : Int).tdiv 4))) (↑ (List.length b_.2.2.2.2.2.2.2.2.2.2.2.2.2.2.2.1) : Int)) (↑ (List.length b_.2.2.2.2.2.2.2.2.2.2.2.2.2.2.2.2.1) : Int)) (↑ (List.length b_.2.2.2.2.2.2.2.2.2.2.2.2.2.2.2.2.2.1) : Int)) (↑ (List.length b_.2.2.2.2.2.2.2.2.2.2.2.2.2.2.2.2.2.2.1) : Int)) (↑ (List.length b_.2.2.2.2.2.2.2.2.2.2.2.2.2.2.2.2.2.2.2.1) : Int)) (↑ (List.length b_.2.2.2.2.2.2.2.2.2.2.2.2.2.2.2.2.2.2.2.2.1) : Int)) (↑ (List.length b_.2.2.2.2.2.2.2.2.2.2.2.2.2.2.2.2.2.2.2.2.2) : Int))) b_.2.2.2.2.2.2.2.2.2.2.2.2.2.2.2.1 ((↑ (List.length b_.2.2.2.2.2.2.2.2.2.2.2.2.2.2.2.1) : Int)) 0 b_
  else none
def v_u44 (k : Nat) (b_ : T17.T) : R_u44 := (f_u44 k b_).getD false
def ke_u44 (k : Nat) : Ke := (11, fun xs => match xs with
  | [_] => some [false]
  | _ => none, fun xs bs => match xs, bs with
  | [.agg qb_], [] => (decS [] T17 qb_).bind fun b_ => some (.one (res_u44 (v_u44 k b_), bo_u44 b_ (v_u44 k b_)))
  | _, _ => none)
def cs_u44 : List (Nat × List Cmd) := [(4, [.autoB [1, 3, 60, 61, 62] false []]), (9, [.autoB [1, 3, 76, 77, 78] false []]), (14, [.autoB [3, 89, 90, 91] false []])]
abbrev E_u44 (b_ : T17.T) (todo : List Item) (st : St) (o : Option R_u44) : Prop := ∀ r, o = some r → Ev Tryz.prog Tryz.f11 0 todo st (res_u44 r) (bo_u44 b_ r)
theorem ev_u44 (k : Nat) (b_ : T17.T) : ∀ j, (∀ (y0 : Int) (y1 : List (T9).T) (y2 : Int) (y3 : Int) (y4 : T17.T), E_u44 b_ (placeAt Tryz.f11 4) (st_u44_4 y0 y1 y2 y3 y4) (f_u44_4 k j y0 y1 y2 y3 y4)) ∧ (∀ (y0 : Int) (y1 : List (T11).T) (y2 : Int) (y3 : Int) (y4 : T17.T), E_u44 b_ (placeAt Tryz.f11 9) (st_u44_9 y0 y1 y2 y3 y4) (f_u44_9 k j y0 y1 y2 y3 y4)) ∧ (∀ (y0 : Int) (y1 : List (T5).T) (y2 : Int) (y3 : Int), E_u44 b_ (placeAt Tryz.f11 14) (st_u44_14 y0 y1 y2 y3) (f_u44_14 k j y0 y1 y2 y3))
  | 0 => ⟨fun _ _ _ _ _ _ h => (nomatch h), fun _ _ _ _ _ _ h => (nomatch h), fun _ _ _ _ _ h => (nomatch h)⟩
  | j + 1 => by
    have ih := @ev_u44 k b_ j
    refine ⟨?_, ?_, ?_⟩
    · intro y0 y1 y2 y3 y4 r h
      rw [f_u44_4] at h
      exact go (mkK []) [] cs_u44 [.autoB [2] true []] (gT h (fun c h => gN2 h fun h => gC h 4 (ih.1 _ _ _ _ _ _)) fun c h => gC h 9 (ih.2.1 _ _ _ _ _ _)) (by kernel_rfl)
    · intro y0 y1 y2 y3 y4 r h
      rw [f_u44_9] at h
      exact go (mkK []) [] cs_u44 [.autoB [2] true []] (gT h (fun c h => gN2 h fun h => gC h 9 (ih.2.1 _ _ _ _ _ _)) fun c h => gC h 14 (ih.2.2 _ _ _ _ _)) (by kernel_rfl)
    · intro y0 y1 y2 y3 r h
      rw [f_u44_14] at h
      exact go (mkK []) [] cs_u44 [.autoB [2] true []] (gT h (fun c h => gN2 h fun h => gC h 14 (ih.2.2 _ _ _ _ _)) fun c h => gL h) (by kernel_rfl)
theorem of_u44 (k : Nat) (b_ : T17.T) (r : R_u44) (h : f_u44 k b_ = some r) : C_u44 b_ r := by
  refine CC.of (fn := Tryz.f11) (by kernel_rfl) (by kernel_rfl) (by kernel_rfl) (by kernel_rfl) ?_
  unfold f_u44 at h
  exact go (mkK []) [] cs_u44 [.autoB [2] true []] (gN1 h id fun h => gC h 4 ((ev_u44 k b_ (k + (List.length b_.2.2.2.2.2.2.2.2.2.2.2.2.2.2.2.1 + (List.length b_.2.2.2.2.2.2.2.2.2.2.2.2.2.2.2.2.2.1 + List.length b_.2.2.2.2.2.2.2.2.2.2.2.1)))).1 _ _ _ _ _ _)) (by kernel_rfl)
theorem cc_u44 {k : Nat} {b_ : T17.T} (h : (f_u44 k b_).isSome = true) : C_u44 b_ (v_u44 k b_) := ccG (Φ := C_u44 b_) h (of_u44 k b_)
abbrev R_u52 : Type := Int
def res_u52 (r : R_u52) : AV := .r (.v (.int .i64 r))
def bo_u52 (b_ : T17.T) (r : R_u52) : List (Nat × Blk) := []
def args_u52 (b_ : T17.T) : List AV := [.agg (rvs (enc T17 b_))]
def bin_u52 (b_ : T17.T) : List Blk := []
abbrev C_u52 (b_ : T17.T) (r : R_u52) : Prop := CC Tryz.prog 27 (args_u52 b_) (bin_u52 b_) (res_u52 r) (bo_u52 b_ r)
def st_u52_4 (y0 : Int) (y1 : Int) (y2 : T17.T) : St := ⟨mkS 95 [(1, .ptr 1000000 0 0), (3, .r (.v (.int .i64 y0))), (4, .r (.v (.int .i64 y1)))], [(1000000, 0, .var 36 (rvs (enc T17 y2)))]⟩
def st_u52_8 (y0 : Int) (y1 : Int) (y2 : T17.T) : St := ⟨mkS 95 [(1, .ptr 1000000 0 0), (3, .r (.v (.int .i64 y0))), (5, .r (.v (.int .i64 y1)))], [(1000000, 0, .var 36 (rvs (enc T17 y2)))]⟩
mutual
def f_u52_4 (k : Nat) : Nat → Int → Int → T17.T → Option R_u52
  | 0, _, _, _ => none
  | j + 1, y0, y1, y2 =>
  bif (decide (y1 < (↑ (List.length y2.2.2.2.2.2.2.2.2.2.2.2.2.2.2.2.1) : Int))) then
  if (0 ≤ y1) ∧ (y1 < (↑ (List.length y2.2.2.2.2.2.2.2.2.2.2.2.2.2.2.2.1) : Int)) ∧ (0 ≤ y1) ∧ (y1 < (↑ (List.length y2.2.2.2.2.2.2.2.2.2.2.2.2.2.2.2.1) : Int)) then
  f_u52_4 k j ((imx (imx y0 (↑ (List.length (List.getD y2.2.2.2.2.2.2.2.2.2.2.2.2.2.2.2.1 y1.toNat T9.dflt).2.1) : Int)) (↑ (List.length (List.getD y2.2.2.2.2.2.2.2.2.2.2.2.2.2.2.2.1 y1.toNat T9.dflt).2.2.1) : Int))) ((IntKind.i64.wrap (y1 + 1))) y2
  else none
  else
  f_u52_8 k j y0 0 y2
def f_u52_8 (k : Nat) : Nat → Int → Int → T17.T → Option R_u52
  | 0, _, _, _ => none
  | j + 1, y0, y1, y2 =>
  bif (decide (y1 < (↑ (List.length y2.2.2.2.2.2.2.2.2.2.2.2.2.2.2.2.2.2.1) : Int))) then
  if (0 ≤ y1) ∧ (y1 < (↑ (List.length y2.2.2.2.2.2.2.2.2.2.2.2.2.2.2.2.2.2.1) : Int)) then
  f_u52_8 k j ((if (↑ (List.length (List.getD y2.2.2.2.2.2.2.2.2.2.2.2.2.2.2.2.2.2.1 y1.toNat T11.dflt).2.2) : Int) > y0 then (↑ (List.length (List.getD y2.2.2.2.2.2.2.2.2.2.2.2.2.2.2.2.2.2.1 y1.toNat T11.dflt).2.2) : Int) else y0)) ((IntKind.i64.wrap (y1 + 1))) y2
  else none
  else
  bif (decide (y0 > (512 : Int))) then
  some 8
  else
  some 0
end
def f_u52 (k : Nat) (b_ : T17.T) : Option R_u52 :=
  f_u52_4 k k ((imx (imx (imx (imx (imx (imx (imx (imx (imx (imx (imx (imx (imx (imx (↑ (List.length b_.2.2.2.2.2.2.2.1) : Int) (↑ (List.length b_.2.2.2.2.2.2.2.2.1) : Int)) (↑ (List.length b_.2.2.2.2.2.2.2.2.2.1) : Int)) (↑ (List.length b_.2.2.2.2.2.2.2.2.2.2.1) : Int)) (↑ (List.length b_.2.2.2.2.2.2.2.2.2.2.2.1) : Int)) (↑ (List.length b_.2.2.2.2.2.2.2.2.2.2.2.2.1) : Int)) (↑ (List.length b_.2.2.2.2.2.2.2.2.2.2.2.2.2.1) : Int)) (↑ (List.length b_.2.2.2.2.2.2.2.2.2.2.2.2.2.2.1) : Int)) (↑ (List.length b_.2.2.2.2.2.2.2.2.2.2.2.2.2.2.2.1) : Int)) (↑ (List.length b_.2.2.2.2.2.2.2.2.2.2.2.2.2.2.2.2.1) : Int)) (↑ (List.length b_.2.2.2.2.2.2.2.2.2.2.2.2.2.2.2.2.2.1) : Int)) (↑ (List.length b_.2.2.2.2.2.2.2.2.2.2.2.2.2.2.2.2.2.2.1) : Int)) (↑ (List.length b_.2.2.2.2.2.2.2.2.2.2.2.2.2.2.2.2.2.2.2.1) : Int)) (↑ (List.length b_.2.2.2.2.2.2.2.2.2.2.2.2.2.2.2.2.2.2.2.2.1) : Int)) (↑ (List.length b_.2.2.2.2.2.2.2.2.2.2.2.2.2.2.2.2.2.2.2.2.2) : Int))) 0 b_
def v_u52 (k : Nat) (b_ : T17.T) : R_u52 := (f_u52 k b_).getD 0
def ke_u52 (k : Nat) : Ke := (27, fun xs => match xs with
  | [_] => some [false]
  | _ => none, fun xs bs => match xs, bs with
  | [.agg qb_], [] => (decS [] T17 qb_).bind fun b_ => some (.one (res_u52 (v_u52 k b_), bo_u52 b_ (v_u52 k b_)))
  | _, _ => none)
def cs_u52 : List (Nat × List Cmd) := [(4, [.autoB [1, 3, 4] false []]), (8, [.autoB [1, 3, 5] false []])]
abbrev E_u52 (b_ : T17.T) (todo : List Item) (st : St) (o : Option R_u52) : Prop := ∀ r, o = some r → Ev Tryz.prog Tryz.f27 0 todo st (res_u52 r) (bo_u52 b_ r)
theorem ev_u52 (k : Nat) (b_ : T17.T) : ∀ j, (∀ (y0 : Int) (y1 : Int) (y2 : T17.T), E_u52 b_ (placeAt Tryz.f27 4) (st_u52_4 y0 y1 y2) (f_u52_4 k j y0 y1 y2)) ∧ (∀ (y0 : Int) (y1 : Int) (y2 : T17.T), E_u52 b_ (placeAt Tryz.f27 8) (st_u52_8 y0 y1 y2) (f_u52_8 k j y0 y1 y2))
  | 0 => ⟨fun _ _ _ _ h => (nomatch h), fun _ _ _ _ h => (nomatch h)⟩
  | j + 1 => by
    have ih := @ev_u52 k b_ j
    refine ⟨?_, ?_⟩
    · intro y0 y1 y2 r h
      rw [f_u52_4] at h
      exact go (mkK []) [] cs_u52 [.autoB [2] true []] (gT h (fun c h => gN h (fun q => conjC q.1 (conjC q.2.1 (conjC q.2.2.1 (conjC q.2.2.2 conj0)))) fun h => gC h 4 (ih.1 _ _ _ _)) fun c h => gC h 8 (ih.2 _ _ _ _)) (by kernel_rfl)
    · intro y0 y1 y2 r h
      rw [f_u52_8] at h
      exact go (mkK []) [] cs_u52 [.autoB [2] true []] (gT h (fun c h => gN2 h fun h => gC h 8 (ih.2 _ _ _ _)) fun c h => gT h (fun c h => gL h) fun c h => gL h) (by kernel_rfl)
theorem of_u52 (k : Nat) (b_ : T17.T) (r : R_u52) (h : f_u52 k b_ = some r) : C_u52 b_ r := by
  refine CC.of (fn := Tryz.f27) (by kernel_rfl) (by kernel_rfl) (by kernel_rfl) (by kernel_rfl) ?_
  unfold f_u52 at h
  exact go (mkK []) [] cs_u52 [.autoB [2] true []] (gC h 4 ((ev_u52 k b_ k).1 _ _ _ _)) (by kernel_rfl)
theorem cc_u52 {k : Nat} {b_ : T17.T} (h : (f_u52 k b_).isSome = true) : C_u52 b_ (v_u52 k b_) := ccG (Φ := C_u52 b_) h (of_u52 k b_)
abbrev R_u17 : Type := Bool
def res_u17 (r : R_u17) : AV := .r (.v (.bool r))
def bo_u17 (b_ : T17.T) (r : R_u17) : List (Nat × Blk) := []
def args_u17 (b_ : T17.T) : List AV := [.agg (rvs (enc T17 b_))]
def bin_u17 (b_ : T17.T) : List Blk := []
abbrev C_u17 (b_ : T17.T) (r : R_u17) : Prop := CC Tryz.prog 74 (args_u17 b_) (bin_u17 b_) (res_u17 r) (bo_u17 b_ r)
def st_u17_3 (y0 : List (T9).T) (y1 : Int) (y2 : Int) (y3 : T17.T) (y4 : List (I).T) : St := ⟨mkS 96 [(1, .ptr 1000000 0 0), (3, .own 1000001 0), (57, .r (.ro T9 y0)), (58, .r (.v (.int .i64 y1))), (59, .r (.v (.int .i64 y2)))], [(1000000, 0, .var 36 (rvs (enc T17 y3))), (1000001, 0, .row 3 I y4)]⟩
def st_u17_8 (y0 : List (T11).T) (y1 : Int) (y2 : Int) (y3 : List (I).T) : St := ⟨mkS 96 [(3, .own 1000000 0), (74, .r (.ro T11 y0)), (75, .r (.v (.int .i64 y1))), (76, .r (.v (.int .i64 y2)))], [(1000000, 0, .row 3 I y3)]⟩
def st_u17_13 (y0 : Int) (y1 : Int) (y2 : List (I).T) : St := ⟨mkS 96 [(87, .own 1000000 0), (88, .r (.v (.int .i64 y0))), (89, .r (.v (.int .i64 y1)))], [(1000000, 0, .row 3 I y2)]⟩
mutual
def f_u17_3 (k : Nat) : Nat → List (T9).T → Int → Int → T17.T → List (I).T → Option R_u17
  | 0, _, _, _, _, _ => none
  | j + 1, y0, y1, y2, y3, y4 =>
  bif (decide (y2 < y1)) then
  if (0 ≤ y2) ∧ (y2 < (↑y0.length : Int)) then
  if ((y4.length + [(↑ (List.length (y0.getD y2.toNat T9.dflt).2.1) : Int), (↑ (List.length (y0.getD y2.toNat T9.dflt).2.2.1) : Int)].length) * (8 : Nat) ≤ (140737488355328 : Nat)) then
  f_u17_3 k j y0 y1 ((IntKind.i64.wrap (y2 + 1))) y3 ((y4 ++ [(↑ (List.length (y0.getD y2.toNat T9.dflt).2.1) : Int), (↑ (List.length (y0.getD y2.toNat T9.dflt).2.2.1) : Int)]))
  else none
  else none
  else
  f_u17_8 k j y3.2.2.2.2.2.2.2.2.2.2.2.2.2.2.2.2.2.1 ((↑ (List.length y3.2.2.2.2.2.2.2.2.2.2.2.2.2.2.2.2.2.1) : Int)) 0 y4
def f_u17_8 (k : Nat) : Nat → List (T11).T → Int → Int → List (I).T → Option R_u17
  | 0, _, _, _, _ => none
  | j + 1, y0, y1, y2, y3 =>
  bif (decide (y2 < y1)) then
  if (0 ≤ y2) ∧ (y2 < (↑y0.length : Int)) then
  if ((y3.length + [(↑ (List.length (y0.getD y2.toNat T11.dflt).2.2) : Int)].length) * (8 : Nat) ≤ (140737488355328 : Nat)) then
  f_u17_8 k j y0 y1 ((IntKind.i64.wrap (y2 + 1))) ((y3 ++ [(↑ (List.length (y0.getD y2.toNat T11.dflt).2.2) : Int)]))
  else none
  else none
  else
  f_u17_13 k j ((↑y3.length : Int)) 0 y3
def f_u17_13 (k : Nat) : Nat → Int → Int → List (I).T → Option R_u17
  | 0, _, _, _ => none
  | j + 1, y0, y1, y2 =>
  bif (decide (y1 < y0)) then
  if (0 ≤ y1) ∧ (y1 < (↑y2.length : Int)) then
  bif (decide (y2.getD y1.toNat I.dflt > (512 : Int))) then
  some true
  else
  f_u17_13 k j y0 ((IntKind.i64.wrap (y1 + 1))) y2
  else none
  else
  some false
end
def f_u17 (k : Nat) (b_ : T17.T) : Option R_u17 :=
  f_u17_3 k k b_.2.2.2.2.2.2.2.2.2.2.2.2.2.2.2.1 ((↑ (List.length b_.2.2.2.2.2.2.2.2.2.2.2.2.2.2.2.1) : Int)) 0 b_ ([(↑ (List.length b_.2.2.2.2.2.2.2.1) : Int), (↑ (List.length b_.2.2.2.2.2.2.2.2.1) : Int), (↑ (List.length b_.2.2.2.2.2.2.2.2.2.1) : Int), (↑ (List.length b_.2.2.2.2.2.2.2.2.2.2.1) : Int), (↑ (List.length b_.2.2.2.2.2.2.2.2.2.2.2.1) : Int), (↑ (List.length b_.2.2.2.2.2.2.2.2.2.2.2.2.1) : Int), (↑ (List.length b_.2.2.2.2.2.2.2.2.2.2.2.2.2.1) : Int), (↑ (List.length b_.2.2.2.2.2.2.2.2.2.2.2.2.2.2.1) : Int), (↑ (List.length b_.2.2.2.2.2.2.2.2.2.2.2.2.2.2.2.1) : Int), (↑ (List.length b_.2.2.2.2.2.2.2.2.2.2.2.2.2.2.2.2.1) : Int), (↑ (List.length b_.2.2.2.2.2.2.2.2.2.2.2.2.2.2.2.2.2.1) : Int), (↑ (List.length b_.2.2.2.2.2.2.2.2.2.2.2.2.2.2.2.2.2.2.1) : Int), (↑ (List.length b_.2.2.2.2.2.2.2.2.2.2.2.2.2.2.2.2.2.2.2.1) : Int), (↑ (List.length b_.2.2.2.2.2.2.2.2.2.2.2.2.2.2.2.2.2.2.2.2.1) : Int), (↑ (List.length b_.2.2.2.2.2.2.2.2.2.2.2.2.2.2.2.2.2.2.2.2.2) : Int)])
def v_u17 (k : Nat) (b_ : T17.T) : R_u17 := (f_u17 k b_).getD false
def ke_u17 (k : Nat) : Ke := (74, fun xs => match xs with
  | [_] => some [false]
  | _ => none, fun xs bs => match xs, bs with
  | [.agg qb_], [] => (decS [] T17 qb_).bind fun b_ => some (.one (res_u17 (v_u17 k b_), bo_u17 b_ (v_u17 k b_)))
  | _, _ => none)
def cs_u17 : List (Nat × List Cmd) := [(3, [.autoB [1, 3, 57, 58, 59] false []]), (8, [.autoB [3, 74, 75, 76] false []]), (13, [.autoB [87, 88, 89] false []])]
abbrev E_u17 (b_ : T17.T) (todo : List Item) (st : St) (o : Option R_u17) : Prop := ∀ r, o = some r → Ev Tryz.prog Tryz.f74 0 todo st (res_u17 r) (bo_u17 b_ r)
theorem ev_u17 (k : Nat) (b_ : T17.T) : ∀ j, (∀ (y0 : List (T9).T) (y1 : Int) (y2 : Int) (y3 : T17.T) (y4 : List (I).T), E_u17 b_ (placeAt Tryz.f74 3) (st_u17_3 y0 y1 y2 y3 y4) (f_u17_3 k j y0 y1 y2 y3 y4)) ∧ (∀ (y0 : List (T11).T) (y1 : Int) (y2 : Int) (y3 : List (I).T), E_u17 b_ (placeAt Tryz.f74 8) (st_u17_8 y0 y1 y2 y3) (f_u17_8 k j y0 y1 y2 y3)) ∧ (∀ (y0 : Int) (y1 : Int) (y2 : List (I).T), E_u17 b_ (placeAt Tryz.f74 13) (st_u17_13 y0 y1 y2) (f_u17_13 k j y0 y1 y2))
  | 0 => ⟨fun _ _ _ _ _ _ h => (nomatch h), fun _ _ _ _ _ h => (nomatch h), fun _ _ _ _ h => (nomatch h)⟩
  | j + 1 => by
    have ih := @ev_u17 k b_ j
    refine ⟨?_, ?_, ?_⟩
    · intro y0 y1 y2 y3 y4 r h
      rw [f_u17_3] at h
      exact go (mkK []) [] cs_u17 [.autoB [2] true []] (gT h (fun c h => gN2 h fun h => gN1 h id fun h => gC h 3 (ih.1 _ _ _ _ _ _)) fun c h => gC h 8 (ih.2.1 _ _ _ _ _)) (by kernel_rfl)
    · intro y0 y1 y2 y3 r h
      rw [f_u17_8] at h
      exact go (mkK []) [] cs_u17 [.autoB [2] true []] (gT h (fun c h => gN2 h fun h => gN1 h id fun h => gC h 8 (ih.2.1 _ _ _ _ _)) fun c h => gC h 13 (ih.2.2 _ _ _ _)) (by kernel_rfl)
    · intro y0 y1 y2 r h
      rw [f_u17_13] at h
      exact go (mkK []) [] cs_u17 [.autoB [2] true []] (gT h (fun c h => gN2 h fun h => gT h (fun c h => gL h) fun c h => gC h 13 (ih.2.2 _ _ _ _)) fun c h => gL h) (by kernel_rfl)
theorem of_u17 (k : Nat) (b_ : T17.T) (r : R_u17) (h : f_u17 k b_ = some r) : C_u17 b_ r := by
  refine CC.of (fn := Tryz.f74) (by kernel_rfl) (by kernel_rfl) (by kernel_rfl) (by kernel_rfl) ?_
  unfold f_u17 at h
  exact go (mkK []) [] cs_u17 [.autoB [2] true []] (gC h 3 ((ev_u17 k b_ k).1 _ _ _ _ _ _)) (by kernel_rfl)
theorem cc_u17 {k : Nat} {b_ : T17.T} (h : (f_u17 k b_).isSome = true) : C_u17 b_ (v_u17 k b_) := ccG (Φ := C_u17 b_) h (of_u17 k b_)

end
/-! ### books that are not too long -/
theorem imx_l (a b : Int) : a ≤ imx a b := by unfold imx; split <;> omega
theorem imx_r (a b : Int) : b ≤ imx a b := by unfold imx; split <;> omega
theorem imx_le {a b c : Int} (h1 : a ≤ c) (h2 : b ≤ c) : imx a b ≤ c := by unfold imx; split <;> omega
structure GB (b : T17.T) : Prop where
  bGrades : b.2.2.2.2.2.2.2.1.length ≤ 40
  bSections : b.2.2.2.2.2.2.2.2.2.1.length ≤ 40
  bTurns : b.2.2.2.2.2.2.2.2.2.2.1.length ≤ 40
  bRolls : b.2.2.2.2.2.2.2.2.2.2.2.1.length ≤ 40
  bUsed : b.2.2.2.2.2.2.2.2.2.2.2.2.1.length ≤ 40
  bScrapped : b.2.2.2.2.2.2.2.2.2.2.2.2.2.1.length ≤ 40
  bSpots : b.2.2.2.2.2.2.2.2.2.2.2.2.2.2.1.length ≤ 40
  bOrders : b.2.2.2.2.2.2.2.2.2.2.2.2.2.2.2.1.length ≤ 40
  bWaivers : b.2.2.2.2.2.2.2.2.2.2.2.2.2.2.2.2.1.length ≤ 40
  bShipments : b.2.2.2.2.2.2.2.2.2.2.2.2.2.2.2.2.2.1.length ≤ 40
  bClaims : b.2.2.2.2.2.2.2.2.2.2.2.2.2.2.2.2.2.2.1.length ≤ 40
  bCredits : b.2.2.2.2.2.2.2.2.2.2.2.2.2.2.2.2.2.2.2.1.length ≤ 40
  bBroke : b.2.2.2.2.2.2.2.2.2.2.2.2.2.2.2.2.2.2.2.2.1.length ≤ 40
  bPostings : b.2.2.2.2.2.2.2.2.2.2.2.2.2.2.2.2.2.2.2.2.2.length ≤ 40
  supp : b.2.2.2.2.2.2.2.2.1.length ≤ 200
  ord : ∀ x ∈ b.2.2.2.2.2.2.2.2.2.2.2.2.2.2.2.1, x.2.1.length ≤ 40 ∧ x.2.2.1.length ≤ 40
  shp : ∀ x ∈ b.2.2.2.2.2.2.2.2.2.2.2.2.2.2.2.2.2.1, x.2.2.length ≤ 40
theorem great_14 (k : Nat) (l : List T5.T) (hl : l.length ≤ 140737488351232) : ∀ (d i j : Nat) (y : Int), i + d = l.length → d < j →
    ∃ n : Int, f_u44_14 k j y l (l.length : Int) (i : Int) = some (decide (n > 40)) ∧ y ≤ n := by
  intro d
  induction d with
  | zero =>
    intro i j y hi hj
    obtain ⟨j, rfl⟩ : ∃ q, j = q + 1 := ⟨j - 1, by omega⟩
    refine ⟨y, ?_, Int.le_refl _⟩
    rw [f_u44_14, decide_eq_false (by omega : ¬ (i : Int) < (l.length : Int)), cond_false]
  | succ d ih =>
    intro i j y hi hj
    obtain ⟨j, rfl⟩ : ∃ q, j = q + 1 := ⟨j - 1, by omega⟩
    rw [f_u44_14, decide_eq_true (by omega : (i : Int) < (l.length : Int)), cond_true, if_pos ⟨by omega, by omega⟩, wrapS i (by omega)]
    generalize IntKind.i64.wrap (2 * _) = z
    obtain ⟨n, h1, h2⟩ := ih (i + 1) j (if z > y then z else y) (by omega) (by omega)
    refine ⟨n, h1, ?_⟩
    revert h2
    split <;> omega
theorem great_9 (k : Nat) (b : T17.T) (hr : b.2.2.2.2.2.2.2.2.2.2.2.1.length ≤ 140737488351232) (l : List T11.T) (hl : l.length ≤ 140737488351232) : ∀ (d i j : Nat) (y : Int), i + d = l.length → d + 1 + b.2.2.2.2.2.2.2.2.2.2.2.1.length < j →
    ∃ n : Int, f_u44_9 k j y l (l.length : Int) (i : Int) b = some (decide (n > 40)) ∧ y ≤ n ∧ ∀ x ∈ l.drop i, (x.2.2.length : Int) ≤ n := by
  intro d
  induction d with
  | zero =>
    intro i j y hi hj
    obtain ⟨j, rfl⟩ : ∃ q, j = q + 1 := ⟨j - 1, by omega⟩
    rw [f_u44_9, decide_eq_false (by omega : ¬ (i : Int) < (l.length : Int)), cond_false, List.drop_of_length_le (by omega)]
    obtain ⟨n, h1, h2⟩ := great_14 k (b.2.2.2.2.2.2.2.2.2.2.2.1) hr (b.2.2.2.2.2.2.2.2.2.2.2.1.length) 0 j y (by omega) (by omega)
    exact ⟨n, h1, h2, fun x hx => by simp at hx⟩
  | succ d ih =>
    intro i j y hi hj
    obtain ⟨j, rfl⟩ : ∃ q, j = q + 1 := ⟨j - 1, by omega⟩
    rw [f_u44_9, decide_eq_true (by omega : (i : Int) < (l.length : Int)), cond_true, if_pos ⟨by omega, by omega⟩, wrapS i (by omega), Int.toNat_natCast, drop_cons' l i T11.dflt (by omega)]
    obtain ⟨n, h1, h2, h3⟩ := ih (i + 1) j (if ((l.getD i T11.dflt).2.2.length : Int) > y then ((l.getD i T11.dflt).2.2.length : Int) else y) (by omega) (by omega)
    refine ⟨n, h1, ?_, fun x hx => ?_⟩
    · revert h2; split <;> omega
    · rcases List.mem_cons.1 hx with e | hx
      · rw [e]; revert h2; split <;> omega
      · exact h3 x hx
theorem great_4 (k : Nat) (b : T17.T) (hr : b.2.2.2.2.2.2.2.2.2.2.2.1.length ≤ 140737488351232) (hs : b.2.2.2.2.2.2.2.2.2.2.2.2.2.2.2.2.2.1.length ≤ 140737488351232) (l : List T9.T) (hl : l.length ≤ 140737488351232) : ∀ (d i j : Nat) (y : Int), i + d = l.length → d + 2 + (b.2.2.2.2.2.2.2.2.2.2.2.2.2.2.2.2.2.1.length + b.2.2.2.2.2.2.2.2.2.2.2.1.length) < j →
    ∃ n : Int, f_u44_4 k j y l (l.length : Int) (i : Int) b = some (decide (n > 40)) ∧ y ≤ n ∧ (∀ x ∈ b.2.2.2.2.2.2.2.2.2.2.2.2.2.2.2.2.2.1, (x.2.2.length : Int) ≤ n) ∧ ∀ x ∈ l.drop i, (x.2.1.length : Int) ≤ n ∧ (x.2.2.1.length : Int) ≤ n := by
  intro d
  induction d with
  | zero =>
    intro i j y hi hj
    obtain ⟨j, rfl⟩ : ∃ q, j = q + 1 := ⟨j - 1, by omega⟩
    rw [f_u44_4, decide_eq_false (by omega : ¬ (i : Int) < (l.length : Int)), cond_false, List.drop_of_length_le (by omega)]
    obtain ⟨n, h1, h2, h3⟩ := great_9 k b hr (b.2.2.2.2.2.2.2.2.2.2.2.2.2.2.2.2.2.1) hs (b.2.2.2.2.2.2.2.2.2.2.2.2.2.2.2.2.2.1.length) 0 j y (by omega) (by omega)
    rw [List.drop_zero] at h3
    exact ⟨n, h1, h2, h3, fun x hx => by simp at hx⟩
  | succ d ih =>
    intro i j y hi hj
    obtain ⟨j, rfl⟩ : ∃ q, j = q + 1 := ⟨j - 1, by omega⟩
    rw [f_u44_4, decide_eq_true (by omega : (i : Int) < (l.length : Int)), cond_true, if_pos ⟨by omega, by omega⟩, wrapS i (by omega), Int.toNat_natCast, drop_cons' l i T9.dflt (by omega)]
    obtain ⟨n, h1, h2, h3, h4⟩ := ih (i + 1) j (imx (imx y ((l.getD i T9.dflt).2.1.length : Int)) ((l.getD i T9.dflt).2.2.1.length : Int)) (by omega) (by omega)
    have a1 := imx_l (imx y ((l.getD i T9.dflt).2.1.length : Int)) ((l.getD i T9.dflt).2.2.1.length : Int)
    have a2 := imx_r (imx y ((l.getD i T9.dflt).2.1.length : Int)) ((l.getD i T9.dflt).2.2.1.length : Int)
    have a3 := imx_l y ((l.getD i T9.dflt).2.1.length : Int)
    have a4 := imx_r y ((l.getD i T9.dflt).2.1.length : Int)
    refine ⟨n, h1, by omega, h3, fun x hx => ?_⟩
    rcases List.mem_cons.1 hx with e | hx
    · rw [e]; exact ⟨by omega, by omega⟩
    · exact h4 x hx
theorem great_s (k : Nat) (hk : 100 ≤ k) (b : T17.T) (h1 : b.2.2.2.2.2.2.2.2.2.2.2.2.2.2.2.1.length ≤ 140737488351232) (h2 : b.2.2.2.2.2.2.2.2.2.2.2.2.2.2.2.2.2.1.length ≤ 140737488351232) (h3 : b.2.2.2.2.2.2.2.2.2.2.2.1.length ≤ 140737488351232) (h4 : b.2.2.2.2.2.2.2.2.1.length ≤ 140737488351232) :
    ∃ r : Bool, f_u44 k b = some r ∧ (r = false → GB b) := by
  unfold f_u44
  rw [if_pos (by decide)]
  have hw : IntKind.i64.wrap (((b.2.2.2.2.2.2.2.2.1.length : Nat) : Int).tdiv 4) = ((b.2.2.2.2.2.2.2.2.1.length : Nat) : Int) / 4 := by
    rw [Int.tdiv_eq_ediv_of_nonneg (by omega)]; exact wrap_id (by omega) (by omega)
  obtain ⟨n, g1, g2, g3, g4⟩ := great_4 k b h3 h2 (b.2.2.2.2.2.2.2.2.2.2.2.2.2.2.2.1) h1 (b.2.2.2.2.2.2.2.2.2.2.2.2.2.2.2.1.length) 0 (k + (b.2.2.2.2.2.2.2.2.2.2.2.2.2.2.2.1.length + (b.2.2.2.2.2.2.2.2.2.2.2.2.2.2.2.2.2.1.length + b.2.2.2.2.2.2.2.2.2.2.2.1.length))) (imx (imx (imx (imx (imx (imx (imx (imx (imx (imx (imx (imx (imx (imx (((b.2.2.2.2.2.2.2.1.length : Nat) : Int)) (((b.2.2.2.2.2.2.2.2.2.1.length : Nat) : Int))) (((b.2.2.2.2.2.2.2.2.2.2.1.length : Nat) : Int))) (((b.2.2.2.2.2.2.2.2.2.2.2.1.length : Nat) : Int))) (((b.2.2.2.2.2.2.2.2.2.2.2.2.1.length : Nat) : Int))) (((b.2.2.2.2.2.2.2.2.2.2.2.2.2.1.length : Nat) : Int))) (((b.2.2.2.2.2.2.2.2.2.2.2.2.2.2.1.length : Nat) : Int))) (IntKind.i64.wrap (((b.2.2.2.2.2.2.2.2.1.length : Nat) : Int).tdiv 4))) (((b.2.2.2.2.2.2.2.2.2.2.2.2.2.2.2.1.length : Nat) : Int))) (((b.2.2.2.2.2.2.2.2.2.2.2.2.2.2.2.2.1.length : Nat) : Int))) (((b.2.2.2.2.2.2.2.2.2.2.2.2.2.2.2.2.2.1.length : Nat) : Int))) (((b.2.2.2.2.2.2.2.2.2.2.2.2.2.2.2.2.2.2.1.length : Nat) : Int))) (((b.2.2.2.2.2.2.2.2.2.2.2.2.2.2.2.2.2.2.2.1.length : Nat) : Int))) (((b.2.2.2.2.2.2.2.2.2.2.2.2.2.2.2.2.2.2.2.2.1.length : Nat) : Int))) (((b.2.2.2.2.2.2.2.2.2.2.2.2.2.2.2.2.2.2.2.2.2.length : Nat) : Int))) (by omega) (by omega)
  rw [List.drop_zero] at g4
  refine ⟨_, g1, fun hr => ?_⟩
  have hn : n ≤ 40 := by
    have := of_decide_eq_false hr
    omega
  have p1 := imx_l (((b.2.2.2.2.2.2.2.1.length : Nat) : Int)) (((b.2.2.2.2.2.2.2.2.2.1.length : Nat) : Int))
  have e1 := imx_r (((b.2.2.2.2.2.2.2.1.length : Nat) : Int)) (((b.2.2.2.2.2.2.2.2.2.1.length : Nat) : Int))
  have p2 := imx_l (imx (((b.2.2.2.2.2.2.2.1.length : Nat) : Int)) (((b.2.2.2.2.2.2.2.2.2.1.length : Nat) : Int))) (((b.2.2.2.2.2.2.2.2.2.2.1.length : Nat) : Int))
  have e2 := imx_r (imx (((b.2.2.2.2.2.2.2.1.length : Nat) : Int)) (((b.2.2.2.2.2.2.2.2.2.1.length : Nat) : Int))) (((b.2.2.2.2.2.2.2.2.2.2.1.length : Nat) : Int))
  have p3 := imx_l (imx (imx (((b.2.2.2.2.2.2.2.1.length : Nat) : Int)) (((b.2.2.2.2.2.2.2.2.2.1.length : Nat) : Int))) (((b.2.2.2.2.2.2.2.2.2.2.1.length : Nat) : Int))) (((b.2.2.2.2.2.2.2.2.2.2.2.1.length : Nat) : Int))
  have e3 := imx_r (imx (imx (((b.2.2.2.2.2.2.2.1.length : Nat) : Int)) (((b.2.2.2.2.2.2.2.2.2.1.length : Nat) : Int))) (((b.2.2.2.2.2.2.2.2.2.2.1.length : Nat) : Int))) (((b.2.2.2.2.2.2.2.2.2.2.2.1.length : Nat) : Int))
  have p4 := imx_l (imx (imx (imx (((b.2.2.2.2.2.2.2.1.length : Nat) : Int)) (((b.2.2.2.2.2.2.2.2.2.1.length : Nat) : Int))) (((b.2.2.2.2.2.2.2.2.2.2.1.length : Nat) : Int))) (((b.2.2.2.2.2.2.2.2.2.2.2.1.length : Nat) : Int))) (((b.2.2.2.2.2.2.2.2.2.2.2.2.1.length : Nat) : Int))
  have e4 := imx_r (imx (imx (imx (((b.2.2.2.2.2.2.2.1.length : Nat) : Int)) (((b.2.2.2.2.2.2.2.2.2.1.length : Nat) : Int))) (((b.2.2.2.2.2.2.2.2.2.2.1.length : Nat) : Int))) (((b.2.2.2.2.2.2.2.2.2.2.2.1.length : Nat) : Int))) (((b.2.2.2.2.2.2.2.2.2.2.2.2.1.length : Nat) : Int))
  have p5 := imx_l (imx (imx (imx (imx (((b.2.2.2.2.2.2.2.1.length : Nat) : Int)) (((b.2.2.2.2.2.2.2.2.2.1.length : Nat) : Int))) (((b.2.2.2.2.2.2.2.2.2.2.1.length : Nat) : Int))) (((b.2.2.2.2.2.2.2.2.2.2.2.1.length : Nat) : Int))) (((b.2.2.2.2.2.2.2.2.2.2.2.2.1.length : Nat) : Int))) (((b.2.2.2.2.2.2.2.2.2.2.2.2.2.1.length : Nat) : Int))
  have e5 := imx_r (imx (imx (imx (imx (((b.2.2.2.2.2.2.2.1.length : Nat) : Int)) (((b.2.2.2.2.2.2.2.2.2.1.length : Nat) : Int))) (((b.2.2.2.2.2.2.2.2.2.2.1.length : Nat) : Int))) (((b.2.2.2.2.2.2.2.2.2.2.2.1.length : Nat) : Int))) (((b.2.2.2.2.2.2.2.2.2.2.2.2.1.length : Nat) : Int))) (((b.2.2.2.2.2.2.2.2.2.2.2.2.2.1.length : Nat) : Int))
  have p6 := imx_l (imx (imx (imx (imx (imx (((b.2.2.2.2.2.2.2.1.length : Nat) : Int)) (((b.2.2.2.2.2.2.2.2.2.1.length : Nat) : Int))) (((b.2.2.2.2.2.2.2.2.2.2.1.length : Nat) : Int))) (((b.2.2.2.2.2.2.2.2.2.2.2.1.length : Nat) : Int))) (((b.2.2.2.2.2.2.2.2.2.2.2.2.1.length : Nat) : Int))) (((b.2.2.2.2.2.2.2.2.2.2.2.2.2.1.length : Nat) : Int))) (((b.2.2.2.2.2.2.2.2.2.2.2.2.2.2.1.length : Nat) : Int))
  have e6 := imx_r (imx (imx (imx (imx (imx (((b.2.2.2.2.2.2.2.1.length : Nat) : Int)) (((b.2.2.2.2.2.2.2.2.2.1.length : Nat) : Int))) (((b.2.2.2.2.2.2.2.2.2.2.1.length : Nat) : Int))) (((b.2.2.2.2.2.2.2.2.2.2.2.1.length : Nat) : Int))) (((b.2.2.2.2.2.2.2.2.2.2.2.2.1.length : Nat) : Int))) (((b.2.2.2.2.2.2.2.2.2.2.2.2.2.1.length : Nat) : Int))) (((b.2.2.2.2.2.2.2.2.2.2.2.2.2.2.1.length : Nat) : Int))
  have p7 := imx_l (imx (imx (imx (imx (imx (imx (((b.2.2.2.2.2.2.2.1.length : Nat) : Int)) (((b.2.2.2.2.2.2.2.2.2.1.length : Nat) : Int))) (((b.2.2.2.2.2.2.2.2.2.2.1.length : Nat) : Int))) (((b.2.2.2.2.2.2.2.2.2.2.2.1.length : Nat) : Int))) (((b.2.2.2.2.2.2.2.2.2.2.2.2.1.length : Nat) : Int))) (((b.2.2.2.2.2.2.2.2.2.2.2.2.2.1.length : Nat) : Int))) (((b.2.2.2.2.2.2.2.2.2.2.2.2.2.2.1.length : Nat) : Int))) (IntKind.i64.wrap (((b.2.2.2.2.2.2.2.2.1.length : Nat) : Int).tdiv 4))
  have e7 := imx_r (imx (imx (imx (imx (imx (imx (((b.2.2.2.2.2.2.2.1.length : Nat) : Int)) (((b.2.2.2.2.2.2.2.2.2.1.length : Nat) : Int))) (((b.2.2.2.2.2.2.2.2.2.2.1.length : Nat) : Int))) (((b.2.2.2.2.2.2.2.2.2.2.2.1.length : Nat) : Int))) (((b.2.2.2.2.2.2.2.2.2.2.2.2.1.length : Nat) : Int))) (((b.2.2.2.2.2.2.2.2.2.2.2.2.2.1.length : Nat) : Int))) (((b.2.2.2.2.2.2.2.2.2.2.2.2.2.2.1.length : Nat) : Int))) (IntKind.i64.wrap (((b.2.2.2.2.2.2.2.2.1.length : Nat) : Int).tdiv 4))
  have p8 := imx_l (imx (imx (imx (imx (imx (imx (imx (((b.2.2.2.2.2.2.2.1.length : Nat) : Int)) (((b.2.2.2.2.2.2.2.2.2.1.length : Nat) : Int))) (((b.2.2.2.2.2.2.2.2.2.2.1.length : Nat) : Int))) (((b.2.2.2.2.2.2.2.2.2.2.2.1.length : Nat) : Int))) (((b.2.2.2.2.2.2.2.2.2.2.2.2.1.length : Nat) : Int))) (((b.2.2.2.2.2.2.2.2.2.2.2.2.2.1.length : Nat) : Int))) (((b.2.2.2.2.2.2.2.2.2.2.2.2.2.2.1.length : Nat) : Int))) (IntKind.i64.wrap (((b.2.2.2.2.2.2.2.2.1.length : Nat) : Int).tdiv 4))) (((b.2.2.2.2.2.2.2.2.2.2.2.2.2.2.2.1.length : Nat) : Int))
  have e8 := imx_r (imx (imx (imx (imx (imx (imx (imx (((b.2.2.2.2.2.2.2.1.length : Nat) : Int)) (((b.2.2.2.2.2.2.2.2.2.1.length : Nat) : Int))) (((b.2.2.2.2.2.2.2.2.2.2.1.length : Nat) : Int))) (((b.2.2.2.2.2.2.2.2.2.2.2.1.length : Nat) : Int))) (((b.2.2.2.2.2.2.2.2.2.2.2.2.1.length : Nat) : Int))) (((b.2.2.2.2.2.2.2.2.2.2.2.2.2.1.length : Nat) : Int))) (((b.2.2.2.2.2.2.2.2.2.2.2.2.2.2.1.length : Nat) : Int))) (IntKind.i64.wrap (((b.2.2.2.2.2.2.2.2.1.length : Nat) : Int).tdiv 4))) (((b.2.2.2.2.2.2.2.2.2.2.2.2.2.2.2.1.length : Nat) : Int))
  have p9 := imx_l (imx (imx (imx (imx (imx (imx (imx (imx (((b.2.2.2.2.2.2.2.1.length : Nat) : Int)) (((b.2.2.2.2.2.2.2.2.2.1.length : Nat) : Int))) (((b.2.2.2.2.2.2.2.2.2.2.1.length : Nat) : Int))) (((b.2.2.2.2.2.2.2.2.2.2.2.1.length : Nat) : Int))) (((b.2.2.2.2.2.2.2.2.2.2.2.2.1.length : Nat) : Int))) (((b.2.2.2.2.2.2.2.2.2.2.2.2.2.1.length : Nat) : Int))) (((b.2.2.2.2.2.2.2.2.2.2.2.2.2.2.1.length : Nat) : Int))) (IntKind.i64.wrap (((b.2.2.2.2.2.2.2.2.1.length : Nat) : Int).tdiv 4))) (((b.2.2.2.2.2.2.2.2.2.2.2.2.2.2.2.1.length : Nat) : Int))) (((b.2.2.2.2.2.2.2.2.2.2.2.2.2.2.2.2.1.length : Nat) : Int))
  have e9 := imx_r (imx (imx (imx (imx (imx (imx (imx (imx (((b.2.2.2.2.2.2.2.1.length : Nat) : Int)) (((b.2.2.2.2.2.2.2.2.2.1.length : Nat) : Int))) (((b.2.2.2.2.2.2.2.2.2.2.1.length : Nat) : Int))) (((b.2.2.2.2.2.2.2.2.2.2.2.1.length : Nat) : Int))) (((b.2.2.2.2.2.2.2.2.2.2.2.2.1.length : Nat) : Int))) (((b.2.2.2.2.2.2.2.2.2.2.2.2.2.1.length : Nat) : Int))) (((b.2.2.2.2.2.2.2.2.2.2.2.2.2.2.1.length : Nat) : Int))) (IntKind.i64.wrap (((b.2.2.2.2.2.2.2.2.1.length : Nat) : Int).tdiv 4))) (((b.2.2.2.2.2.2.2.2.2.2.2.2.2.2.2.1.length : Nat) : Int))) (((b.2.2.2.2.2.2.2.2.2.2.2.2.2.2.2.2.1.length : Nat) : Int))
  have p10 := imx_l (imx (imx (imx (imx (imx (imx (imx (imx (imx (((b.2.2.2.2.2.2.2.1.length : Nat) : Int)) (((b.2.2.2.2.2.2.2.2.2.1.length : Nat) : Int))) (((b.2.2.2.2.2.2.2.2.2.2.1.length : Nat) : Int))) (((b.2.2.2.2.2.2.2.2.2.2.2.1.length : Nat) : Int))) (((b.2.2.2.2.2.2.2.2.2.2.2.2.1.length : Nat) : Int))) (((b.2.2.2.2.2.2.2.2.2.2.2.2.2.1.length : Nat) : Int))) (((b.2.2.2.2.2.2.2.2.2.2.2.2.2.2.1.length : Nat) : Int))) (IntKind.i64.wrap (((b.2.2.2.2.2.2.2.2.1.length : Nat) : Int).tdiv 4))) (((b.2.2.2.2.2.2.2.2.2.2.2.2.2.2.2.1.length : Nat) : Int))) (((b.2.2.2.2.2.2.2.2.2.2.2.2.2.2.2.2.1.length : Nat) : Int))) (((b.2.2.2.2.2.2.2.2.2.2.2.2.2.2.2.2.2.1.length : Nat) : Int))
  have e10 := imx_r (imx (imx (imx (imx (imx (imx (imx (imx (imx (((b.2.2.2.2.2.2.2.1.length : Nat) : Int)) (((b.2.2.2.2.2.2.2.2.2.1.length : Nat) : Int))) (((b.2.2.2.2.2.2.2.2.2.2.1.length : Nat) : Int))) (((b.2.2.2.2.2.2.2.2.2.2.2.1.length : Nat) : Int))) (((b.2.2.2.2.2.2.2.2.2.2.2.2.1.length : Nat) : Int))) (((b.2.2.2.2.2.2.2.2.2.2.2.2.2.1.length : Nat) : Int))) (((b.2.2.2.2.2.2.2.2.2.2.2.2.2.2.1.length : Nat) : Int))) (IntKind.i64.wrap (((b.2.2.2.2.2.2.2.2.1.length : Nat) : Int).tdiv 4))) (((b.2.2.2.2.2.2.2.2.2.2.2.2.2.2.2.1.length : Nat) : Int))) (((b.2.2.2.2.2.2.2.2.2.2.2.2.2.2.2.2.1.length : Nat) : Int))) (((b.2.2.2.2.2.2.2.2.2.2.2.2.2.2.2.2.2.1.length : Nat) : Int))
  have p11 := imx_l (imx (imx (imx (imx (imx (imx (imx (imx (imx (imx (((b.2.2.2.2.2.2.2.1.length : Nat) : Int)) (((b.2.2.2.2.2.2.2.2.2.1.length : Nat) : Int))) (((b.2.2.2.2.2.2.2.2.2.2.1.length : Nat) : Int))) (((b.2.2.2.2.2.2.2.2.2.2.2.1.length : Nat) : Int))) (((b.2.2.2.2.2.2.2.2.2.2.2.2.1.length : Nat) : Int))) (((b.2.2.2.2.2.2.2.2.2.2.2.2.2.1.length : Nat) : Int))) (((b.2.2.2.2.2.2.2.2.2.2.2.2.2.2.1.length : Nat) : Int))) (IntKind.i64.wrap (((b.2.2.2.2.2.2.2.2.1.length : Nat) : Int).tdiv 4))) (((b.2.2.2.2.2.2.2.2.2.2.2.2.2.2.2.1.length : Nat) : Int))) (((b.2.2.2.2.2.2.2.2.2.2.2.2.2.2.2.2.1.length : Nat) : Int))) (((b.2.2.2.2.2.2.2.2.2.2.2.2.2.2.2.2.2.1.length : Nat) : Int))) (((b.2.2.2.2.2.2.2.2.2.2.2.2.2.2.2.2.2.2.1.length : Nat) : Int))
  have e11 := imx_r (imx (imx (imx (imx (imx (imx (imx (imx (imx (imx (((b.2.2.2.2.2.2.2.1.length : Nat) : Int)) (((b.2.2.2.2.2.2.2.2.2.1.length : Nat) : Int))) (((b.2.2.2.2.2.2.2.2.2.2.1.length : Nat) : Int))) (((b.2.2.2.2.2.2.2.2.2.2.2.1.length : Nat) : Int))) (((b.2.2.2.2.2.2.2.2.2.2.2.2.1.length : Nat) : Int))) (((b.2.2.2.2.2.2.2.2.2.2.2.2.2.1.length : Nat) : Int))) (((b.2.2.2.2.2.2.2.2.2.2.2.2.2.2.1.length : Nat) : Int))) (IntKind.i64.wrap (((b.2.2.2.2.2.2.2.2.1.length : Nat) : Int).tdiv 4))) (((b.2.2.2.2.2.2.2.2.2.2.2.2.2.2.2.1.length : Nat) : Int))) (((b.2.2.2.2.2.2.2.2.2.2.2.2.2.2.2.2.1.length : Nat) : Int))) (((b.2.2.2.2.2.2.2.2.2.2.2.2.2.2.2.2.2.1.length : Nat) : Int))) (((b.2.2.2.2.2.2.2.2.2.2.2.2.2.2.2.2.2.2.1.length : Nat) : Int))
  have p12 := imx_l (imx (imx (imx (imx (imx (imx (imx (imx (imx (imx (imx (((b.2.2.2.2.2.2.2.1.length : Nat) : Int)) (((b.2.2.2.2.2.2.2.2.2.1.length : Nat) : Int))) (((b.2.2.2.2.2.2.2.2.2.2.1.length : Nat) : Int))) (((b.2.2.2.2.2.2.2.2.2.2.2.1.length : Nat) : Int))) (((b.2.2.2.2.2.2.2.2.2.2.2.2.1.length : Nat) : Int))) (((b.2.2.2.2.2.2.2.2.2.2.2.2.2.1.length : Nat) : Int))) (((b.2.2.2.2.2.2.2.2.2.2.2.2.2.2.1.length : Nat) : Int))) (IntKind.i64.wrap (((b.2.2.2.2.2.2.2.2.1.length : Nat) : Int).tdiv 4))) (((b.2.2.2.2.2.2.2.2.2.2.2.2.2.2.2.1.length : Nat) : Int))) (((b.2.2.2.2.2.2.2.2.2.2.2.2.2.2.2.2.1.length : Nat) : Int))) (((b.2.2.2.2.2.2.2.2.2.2.2.2.2.2.2.2.2.1.length : Nat) : Int))) (((b.2.2.2.2.2.2.2.2.2.2.2.2.2.2.2.2.2.2.1.length : Nat) : Int))) (((b.2.2.2.2.2.2.2.2.2.2.2.2.2.2.2.2.2.2.2.1.length : Nat) : Int))
  have e12 := imx_r (imx (imx (imx (imx (imx (imx (imx (imx (imx (imx (imx (((b.2.2.2.2.2.2.2.1.length : Nat) : Int)) (((b.2.2.2.2.2.2.2.2.2.1.length : Nat) : Int))) (((b.2.2.2.2.2.2.2.2.2.2.1.length : Nat) : Int))) (((b.2.2.2.2.2.2.2.2.2.2.2.1.length : Nat) : Int))) (((b.2.2.2.2.2.2.2.2.2.2.2.2.1.length : Nat) : Int))) (((b.2.2.2.2.2.2.2.2.2.2.2.2.2.1.length : Nat) : Int))) (((b.2.2.2.2.2.2.2.2.2.2.2.2.2.2.1.length : Nat) : Int))) (IntKind.i64.wrap (((b.2.2.2.2.2.2.2.2.1.length : Nat) : Int).tdiv 4))) (((b.2.2.2.2.2.2.2.2.2.2.2.2.2.2.2.1.length : Nat) : Int))) (((b.2.2.2.2.2.2.2.2.2.2.2.2.2.2.2.2.1.length : Nat) : Int))) (((b.2.2.2.2.2.2.2.2.2.2.2.2.2.2.2.2.2.1.length : Nat) : Int))) (((b.2.2.2.2.2.2.2.2.2.2.2.2.2.2.2.2.2.2.1.length : Nat) : Int))) (((b.2.2.2.2.2.2.2.2.2.2.2.2.2.2.2.2.2.2.2.1.length : Nat) : Int))
  have p13 := imx_l (imx (imx (imx (imx (imx (imx (imx (imx (imx (imx (imx (imx (((b.2.2.2.2.2.2.2.1.length : Nat) : Int)) (((b.2.2.2.2.2.2.2.2.2.1.length : Nat) : Int))) (((b.2.2.2.2.2.2.2.2.2.2.1.length : Nat) : Int))) (((b.2.2.2.2.2.2.2.2.2.2.2.1.length : Nat) : Int))) (((b.2.2.2.2.2.2.2.2.2.2.2.2.1.length : Nat) : Int))) (((b.2.2.2.2.2.2.2.2.2.2.2.2.2.1.length : Nat) : Int))) (((b.2.2.2.2.2.2.2.2.2.2.2.2.2.2.1.length : Nat) : Int))) (IntKind.i64.wrap (((b.2.2.2.2.2.2.2.2.1.length : Nat) : Int).tdiv 4))) (((b.2.2.2.2.2.2.2.2.2.2.2.2.2.2.2.1.length : Nat) : Int))) (((b.2.2.2.2.2.2.2.2.2.2.2.2.2.2.2.2.1.length : Nat) : Int))) (((b.2.2.2.2.2.2.2.2.2.2.2.2.2.2.2.2.2.1.length : Nat) : Int))) (((b.2.2.2.2.2.2.2.2.2.2.2.2.2.2.2.2.2.2.1.length : Nat) : Int))) (((b.2.2.2.2.2.2.2.2.2.2.2.2.2.2.2.2.2.2.2.1.length : Nat) : Int))) (((b.2.2.2.2.2.2.2.2.2.2.2.2.2.2.2.2.2.2.2.2.1.length : Nat) : Int))
  have e13 := imx_r (imx (imx (imx (imx (imx (imx (imx (imx (imx (imx (imx (imx (((b.2.2.2.2.2.2.2.1.length : Nat) : Int)) (((b.2.2.2.2.2.2.2.2.2.1.length : Nat) : Int))) (((b.2.2.2.2.2.2.2.2.2.2.1.length : Nat) : Int))) (((b.2.2.2.2.2.2.2.2.2.2.2.1.length : Nat) : Int))) (((b.2.2.2.2.2.2.2.2.2.2.2.2.1.length : Nat) : Int))) (((b.2.2.2.2.2.2.2.2.2.2.2.2.2.1.length : Nat) : Int))) (((b.2.2.2.2.2.2.2.2.2.2.2.2.2.2.1.length : Nat) : Int))) (IntKind.i64.wrap (((b.2.2.2.2.2.2.2.2.1.length : Nat) : Int).tdiv 4))) (((b.2.2.2.2.2.2.2.2.2.2.2.2.2.2.2.1.length : Nat) : Int))) (((b.2.2.2.2.2.2.2.2.2.2.2.2.2.2.2.2.1.length : Nat) : Int))) (((b.2.2.2.2.2.2.2.2.2.2.2.2.2.2.2.2.2.1.length : Nat) : Int))) (((b.2.2.2.2.2.2.2.2.2.2.2.2.2.2.2.2.2.2.1.length : Nat) : Int))) (((b.2.2.2.2.2.2.2.2.2.2.2.2.2.2.2.2.2.2.2.1.length : Nat) : Int))) (((b.2.2.2.2.2.2.2.2.2.2.2.2.2.2.2.2.2.2.2.2.1.length : Nat) : Int))
  have p14 := imx_l (imx (imx (imx (imx (imx (imx (imx (imx (imx (imx (imx (imx (imx (((b.2.2.2.2.2.2.2.1.length : Nat) : Int)) (((b.2.2.2.2.2.2.2.2.2.1.length : Nat) : Int))) (((b.2.2.2.2.2.2.2.2.2.2.1.length : Nat) : Int))) (((b.2.2.2.2.2.2.2.2.2.2.2.1.length : Nat) : Int))) (((b.2.2.2.2.2.2.2.2.2.2.2.2.1.length : Nat) : Int))) (((b.2.2.2.2.2.2.2.2.2.2.2.2.2.1.length : Nat) : Int))) (((b.2.2.2.2.2.2.2.2.2.2.2.2.2.2.1.length : Nat) : Int))) (IntKind.i64.wrap (((b.2.2.2.2.2.2.2.2.1.length : Nat) : Int).tdiv 4))) (((b.2.2.2.2.2.2.2.2.2.2.2.2.2.2.2.1.length : Nat) : Int))) (((b.2.2.2.2.2.2.2.2.2.2.2.2.2.2.2.2.1.length : Nat) : Int))) (((b.2.2.2.2.2.2.2.2.2.2.2.2.2.2.2.2.2.1.length : Nat) : Int))) (((b.2.2.2.2.2.2.2.2.2.2.2.2.2.2.2.2.2.2.1.length : Nat) : Int))) (((b.2.2.2.2.2.2.2.2.2.2.2.2.2.2.2.2.2.2.2.1.length : Nat) : Int))) (((b.2.2.2.2.2.2.2.2.2.2.2.2.2.2.2.2.2.2.2.2.1.length : Nat) : Int))) (((b.2.2.2.2.2.2.2.2.2.2.2.2.2.2.2.2.2.2.2.2.2.length : Nat) : Int))
  have e14 := imx_r (imx (imx (imx (imx (imx (imx (imx (imx (imx (imx (imx (imx (imx (((b.2.2.2.2.2.2.2.1.length : Nat) : Int)) (((b.2.2.2.2.2.2.2.2.2.1.length : Nat) : Int))) (((b.2.2.2.2.2.2.2.2.2.2.1.length : Nat) : Int))) (((b.2.2.2.2.2.2.2.2.2.2.2.1.length : Nat) : Int))) (((b.2.2.2.2.2.2.2.2.2.2.2.2.1.length : Nat) : Int))) (((b.2.2.2.2.2.2.2.2.2.2.2.2.2.1.length : Nat) : Int))) (((b.2.2.2.2.2.2.2.2.2.2.2.2.2.2.1.length : Nat) : Int))) (IntKind.i64.wrap (((b.2.2.2.2.2.2.2.2.1.length : Nat) : Int).tdiv 4))) (((b.2.2.2.2.2.2.2.2.2.2.2.2.2.2.2.1.length : Nat) : Int))) (((b.2.2.2.2.2.2.2.2.2.2.2.2.2.2.2.2.1.length : Nat) : Int))) (((b.2.2.2.2.2.2.2.2.2.2.2.2.2.2.2.2.2.1.length : Nat) : Int))) (((b.2.2.2.2.2.2.2.2.2.2.2.2.2.2.2.2.2.2.1.length : Nat) : Int))) (((b.2.2.2.2.2.2.2.2.2.2.2.2.2.2.2.2.2.2.2.1.length : Nat) : Int))) (((b.2.2.2.2.2.2.2.2.2.2.2.2.2.2.2.2.2.2.2.2.1.length : Nat) : Int))) (((b.2.2.2.2.2.2.2.2.2.2.2.2.2.2.2.2.2.2.2.2.2.length : Nat) : Int))
  generalize hm1 : imx (((b.2.2.2.2.2.2.2.1.length : Nat) : Int)) (((b.2.2.2.2.2.2.2.2.2.1.length : Nat) : Int)) = m1 at *
  generalize hm2 : imx m1 (((b.2.2.2.2.2.2.2.2.2.2.1.length : Nat) : Int)) = m2 at *
  generalize hm3 : imx m2 (((b.2.2.2.2.2.2.2.2.2.2.2.1.length : Nat) : Int)) = m3 at *
  generalize hm4 : imx m3 (((b.2.2.2.2.2.2.2.2.2.2.2.2.1.length : Nat) : Int)) = m4 at *
  generalize hm5 : imx m4 (((b.2.2.2.2.2.2.2.2.2.2.2.2.2.1.length : Nat) : Int)) = m5 at *
  generalize hm6 : imx m5 (((b.2.2.2.2.2.2.2.2.2.2.2.2.2.2.1.length : Nat) : Int)) = m6 at *
  generalize hm7 : imx m6 (IntKind.i64.wrap (((b.2.2.2.2.2.2.2.2.1.length : Nat) : Int).tdiv 4)) = m7 at *
  generalize hm8 : imx m7 (((b.2.2.2.2.2.2.2.2.2.2.2.2.2.2.2.1.length : Nat) : Int)) = m8 at *
  generalize hm9 : imx m8 (((b.2.2.2.2.2.2.2.2.2.2.2.2.2.2.2.2.1.length : Nat) : Int)) = m9 at *
  generalize hm10 : imx m9 (((b.2.2.2.2.2.2.2.2.2.2.2.2.2.2.2.2.2.1.length : Nat) : Int)) = m10 at *
  generalize hm11 : imx m10 (((b.2.2.2.2.2.2.2.2.2.2.2.2.2.2.2.2.2.2.1.length : Nat) : Int)) = m11 at *
  generalize hm12 : imx m11 (((b.2.2.2.2.2.2.2.2.2.2.2.2.2.2.2.2.2.2.2.1.length : Nat) : Int)) = m12 at *
  generalize hm13 : imx m12 (((b.2.2.2.2.2.2.2.2.2.2.2.2.2.2.2.2.2.2.2.2.1.length : Nat) : Int)) = m13 at *
  generalize hm14 : imx m13 (((b.2.2.2.2.2.2.2.2.2.2.2.2.2.2.2.2.2.2.2.2.2.length : Nat) : Int)) = m14 at *
  rw [hw] at e7
  exact { bGrades := by omega, bSections := by omega, bTurns := by omega, bRolls := by omega, bUsed := by omega, bScrapped := by omega, bSpots := by omega, bOrders := by omega, bWaivers := by omega, bShipments := by omega, bClaims := by omega, bCredits := by omega, bBroke := by omega, bPostings := by omega, supp := by omega, ord := fun x hx => by have := g4 x hx; omega, shp := fun x hx => by have := g3 x hx; omega }

theorem Full_8 (k : Nat) (b : T17.T) (g : GB b) : ∀ (d i j : Nat) (y : Int), i + d = b.2.2.2.2.2.2.2.2.2.2.2.2.2.2.2.2.2.1.length → d < j → y ≤ 512 → f_u52_8 k j y (i : Int) b = some 0 := by
  have hl := g.bShipments
  intro d
  induction d with
  | zero =>
    intro i j y hi hj hy
    obtain ⟨j, rfl⟩ : ∃ q, j = q + 1 := ⟨j - 1, by omega⟩
    rw [f_u52_8, decide_eq_false (by omega : ¬ (i : Int) < (b.2.2.2.2.2.2.2.2.2.2.2.2.2.2.2.2.2.1.length : Int)), cond_false, decide_eq_false (by omega : ¬ y > 512), cond_false]
  | succ d ih =>
    intro i j y hi hj hy
    obtain ⟨j, rfl⟩ : ∃ q, j = q + 1 := ⟨j - 1, by omega⟩
    have hx := g.shp (b.2.2.2.2.2.2.2.2.2.2.2.2.2.2.2.2.2.1.getD i T11.dflt) (gdm _ _ _ (by omega))
    rw [f_u52_8, decide_eq_true (by omega : (i : Int) < (b.2.2.2.2.2.2.2.2.2.2.2.2.2.2.2.2.2.1.length : Int)), cond_true, if_pos ⟨by omega, by omega⟩, wrapS i (by omega), Int.toNat_natCast]
    exact ih (i + 1) j _ (by omega) (by omega) (by split <;> omega)
theorem Full_4 (k : Nat) (b : T17.T) (g : GB b) : ∀ (d i j : Nat) (y : Int), i + d = b.2.2.2.2.2.2.2.2.2.2.2.2.2.2.2.1.length → d + 50 < j → y ≤ 512 → f_u52_4 k j y (i : Int) b = some 0 := by
  have hl := g.bOrders
  have hl2 := g.bShipments
  intro d
  induction d with
  | zero =>
    intro i j y hi hj hy
    obtain ⟨j, rfl⟩ : ∃ q, j = q + 1 := ⟨j - 1, by omega⟩
    rw [f_u52_4, decide_eq_false (by omega : ¬ (i : Int) < (b.2.2.2.2.2.2.2.2.2.2.2.2.2.2.2.1.length : Int)), cond_false]
    exact Full_8 k b g (b.2.2.2.2.2.2.2.2.2.2.2.2.2.2.2.2.2.1.length) 0 j y (by omega) (by omega) hy
  | succ d ih =>
    intro i j y hi hj hy
    obtain ⟨j, rfl⟩ : ∃ q, j = q + 1 := ⟨j - 1, by omega⟩
    have hx := g.ord (b.2.2.2.2.2.2.2.2.2.2.2.2.2.2.2.1.getD i T9.dflt) (gdm _ _ _ (by omega))
    rw [f_u52_4, decide_eq_true (by omega : (i : Int) < (b.2.2.2.2.2.2.2.2.2.2.2.2.2.2.2.1.length : Int)), cond_true, if_pos ⟨by omega, by omega, by omega, by omega⟩, wrapS i (by omega), Int.toNat_natCast]
    exact ih (i + 1) j _ (by omega) (by omega) (imx_le (imx_le hy (by omega)) (by omega))
theorem Full_s (k : Nat) (hk : 200 ≤ k) (b : T17.T) (g : GB b) : f_u52 k b = some 0 := by
  unfold f_u52
  have bGrades := g.bGrades
  have bSections := g.bSections
  have bTurns := g.bTurns
  have bRolls := g.bRolls
  have bUsed := g.bUsed
  have bScrapped := g.bScrapped
  have bSpots := g.bSpots
  have bOrders := g.bOrders
  have bWaivers := g.bWaivers
  have bShipments := g.bShipments
  have bClaims := g.bClaims
  have bCredits := g.bCredits
  have bBroke := g.bBroke
  have bPostings := g.bPostings
  have bSup := g.supp
  refine Full_4 k b g (b.2.2.2.2.2.2.2.2.2.2.2.2.2.2.2.1.length) 0 k _ (by omega) (by omega) ?_
  repeat' refine imx_le ?_ ?_
  all_goals omega
theorem Full_v (k : Nat) (hk : 200 ≤ k) (b : T17.T) (g : GB b) : v_u52 k b = 0 := by
  unfold v_u52; rw [Full_s k hk b g]; rfl

theorem full_13 (k : Nat) (l : List Int) (hl : l.length ≤ 100000) (hb : ∀ x ∈ l, x ≤ 512) : ∀ (d i j : Nat), i + d = l.length → d < j → f_u17_13 k j (l.length : Int) (i : Int) l = some false := by
  intro d
  induction d with
  | zero =>
    intro i j hi hj
    obtain ⟨j, rfl⟩ : ∃ q, j = q + 1 := ⟨j - 1, by omega⟩
    rw [f_u17_13, decide_eq_false (by omega : ¬ (i : Int) < (l.length : Int)), cond_false]
  | succ d ih =>
    intro i j hi hj
    obtain ⟨j, rfl⟩ : ∃ q, j = q + 1 := ⟨j - 1, by omega⟩
    have hx := hb (l.getD i I.dflt) (gdm _ _ _ (by omega))
    rw [f_u17_13, decide_eq_true (by omega : (i : Int) < (l.length : Int)), cond_true, if_pos ⟨by omega, by omega⟩, wrapS i (by omega), Int.toNat_natCast, decide_eq_false (by omega : ¬ l.getD i I.dflt > 512), cond_false]
    exact ih (i + 1) j (by omega) (by omega)
theorem full_8 (k : Nat) (l : List T11.T) (hl : l.length ≤ 40) (hs : ∀ x ∈ l, x.2.2.length ≤ 40) : ∀ (d i j : Nat) (a : List Int), i + d = l.length → 2 * d + a.length + 100 < j → a.length + d ≤ 1000 → (∀ x ∈ a, x ≤ 512) → f_u17_8 k j l (l.length : Int) (i : Int) a = some false := by
  intro d
  induction d with
  | zero =>
    intro i j a hi hj ha hb
    obtain ⟨j, rfl⟩ : ∃ q, j = q + 1 := ⟨j - 1, by omega⟩
    rw [f_u17_8, decide_eq_false (by omega : ¬ (i : Int) < (l.length : Int)), cond_false]
    exact full_13 k a (by omega) hb a.length 0 j (by omega) (by omega)
  | succ d ih =>
    intro i j a hi hj ha hb
    obtain ⟨j, rfl⟩ : ∃ q, j = q + 1 := ⟨j - 1, by omega⟩
    have hx := hs (l.getD i T11.dflt) (gdm _ _ _ (by omega))
    rw [f_u17_8, decide_eq_true (by omega : (i : Int) < (l.length : Int)), cond_true, if_pos ⟨by omega, by omega⟩, wrapS i (by omega), Int.toNat_natCast, if_pos (by simp only [List.length_singleton]; omega)]
    refine ih (i + 1) j _ (by omega) (by simp; omega) (by simp; omega) fun x hx' => ?_
    rcases List.mem_append.1 hx' with h | h
    · exact hb x h
    · rw [List.mem_singleton] at h; omega
theorem full_3 (k : Nat) (b : T17.T) (g : GB b) (l : List T9.T) (hl : l.length ≤ 40) (hs : ∀ x ∈ l, x.2.1.length ≤ 40 ∧ x.2.2.1.length ≤ 40) : ∀ (d i j : Nat) (a : List Int), i + d = l.length → 3 * d + a.length + 200 < j → a.length + 2 * d ≤ 500 → (∀ x ∈ a, x ≤ 512) → f_u17_3 k j l (l.length : Int) (i : Int) b a = some false := by
  intro d
  induction d with
  | zero =>
    intro i j a hi hj ha hb
    obtain ⟨j, rfl⟩ : ∃ q, j = q + 1 := ⟨j - 1, by omega⟩
    have := g.bShipments
    rw [f_u17_3, decide_eq_false (by omega : ¬ (i : Int) < (l.length : Int)), cond_false]
    exact full_8 k (b.2.2.2.2.2.2.2.2.2.2.2.2.2.2.2.2.2.1) (by omega) g.shp (b.2.2.2.2.2.2.2.2.2.2.2.2.2.2.2.2.2.1.length) 0 j a (by omega) (by omega) (by omega) hb
  | succ d ih =>
    intro i j a hi hj ha hb
    obtain ⟨j, rfl⟩ : ∃ q, j = q + 1 := ⟨j - 1, by omega⟩
    have hx := hs (l.getD i T9.dflt) (gdm _ _ _ (by omega))
    rw [f_u17_3, decide_eq_true (by omega : (i : Int) < (l.length : Int)), cond_true, if_pos ⟨by omega, by omega⟩, wrapS i (by omega), Int.toNat_natCast, if_pos (by simp only [List.length_cons, List.length_nil]; omega)]
    refine ih (i + 1) j _ (by omega) (by simp; omega) (by simp; omega) fun x hx' => ?_
    rcases List.mem_append.1 hx' with h | h
    · exact hb x h
    · simp only [List.mem_cons, List.not_mem_nil, or_false] at h
      omega
theorem full_s (k : Nat) (hk : 1000 ≤ k) (b : T17.T) (g : GB b) : f_u17 k b = some false := by
  unfold f_u17
  have bGrades := g.bGrades
  have bSections := g.bSections
  have bTurns := g.bTurns
  have bRolls := g.bRolls
  have bUsed := g.bUsed
  have bScrapped := g.bScrapped
  have bSpots := g.bSpots
  have bOrders := g.bOrders
  have bWaivers := g.bWaivers
  have bShipments := g.bShipments
  have bClaims := g.bClaims
  have bCredits := g.bCredits
  have bBroke := g.bBroke
  have bPostings := g.bPostings
  have bSup := g.supp
  refine full_3 k b g (b.2.2.2.2.2.2.2.2.2.2.2.2.2.2.2.1) (by omega) g.ord (b.2.2.2.2.2.2.2.2.2.2.2.2.2.2.2.1.length) 0 k _ (by omega) (by simp; omega) (by simp; omega) fun x hx => ?_
  simp only [List.mem_cons, List.not_mem_nil, or_false] at hx
  omega
theorem full_v (k : Nat) (hk : 1000 ≤ k) (b : T17.T) (g : GB b) : v_u17 k b = false := by
  unfold v_u17; rw [full_s k hk b g]; rfl
end Go.AM
namespace Go.AM
open Go Go.Proofs
noncomputable section
abbrev R_u11 : Type := T17.T × List (T18).T
def res_u11 (r : R_u11) : AV := .tup []
def bo_u11 (b_ : T17.T) (b_22 : List (T18).T) (kind_ : Int) (x_ : Int) (y_ : Int) (r : R_u11) : List (Nat × Blk) := [(0, .var 140 ((rvs (enc T17 r.1)) ++ [.own 1 1])), (1, .row 54 T18 r.2)]
def args_u11 (b_ : T17.T) (b_22 : List (T18).T) (kind_ : Int) (x_ : Int) (y_ : Int) : List AV := [.ptr 0 0 0, .r (.v (.int .i64 kind_)), .r (.v (.int .i64 x_)), .r (.v (.int .i64 y_))]
def bin_u11 (b_ : T17.T) (b_22 : List (T18).T) (kind_ : Int) (x_ : Int) (y_ : Int) : List Blk := [.var 140 (rvs (enc T17 b_) ++ [.own 1 0]), .row 54 T18 b_22]
abbrev C_u11 (b_ : T17.T) (b_22 : List (T18).T) (kind_ : Int) (x_ : Int) (y_ : Int) (r : R_u11) : Prop := CC Tryz.prog 75 (args_u11 b_ b_22 kind_ x_ y_) (bin_u11 b_ b_22 kind_ x_ y_) (res_u11 r) (bo_u11 b_ b_22 kind_ x_ y_ r)
def f_u11 (k : Nat) (b_ : T17.T) (b_22 : List (T18).T) (kind_ : Int) (x_ : Int) (y_ : Int) : Option R_u11 :=
  if ((b_22.length + [(kind_, x_, y_)].length) * (24 : Nat) ≤ (140737488355328 : Nat)) then
  some ((b_, b_22 ++ [(kind_, x_, y_)]))
  else none
def v_u11 (k : Nat) (b_ : T17.T) (b_22 : List (T18).T) (kind_ : Int) (x_ : Int) (y_ : Int) : R_u11 := (f_u11 k b_ b_22 kind_ x_ y_).getD ((T17).dflt, [])
def ke_u11 (k : Nat) : Ke := (75, fun xs => match xs with
  | [.ptr _ _ _, _, _, _] => some [true, false, false, false]
  | _ => none, fun xs bs => match xs, bs with
  | [.ptr 0 0 0, .r (.v (.int .i64 kind_)), .r (.v (.int .i64 x_)), .r (.v (.int .i64 y_))], [.var 140 qb_, .row 54 tb_22_ qb_22] => (decS [] T17 (qb_.take 22)).bind fun b_ => (castL tb_22_ T18 qb_22).bind fun b_22 => some (.one (res_u11 (v_u11 k b_ b_22 kind_ x_ y_), bo_u11 b_ b_22 kind_ x_ y_ (v_u11 k b_ b_22 kind_ x_ y_)))
  | _, _ => none)
theorem of_u11 (k : Nat) (b_ : T17.T) (b_22 : List (T18).T) (kind_ : Int) (x_ : Int) (y_ : Int) (r : R_u11) (h : f_u11 k b_ b_22 kind_ x_ y_ = some r) : C_u11 b_ b_22 kind_ x_ y_ r := by
  refine CC.of (fn := Tryz.f75) (by kernel_rfl) (by kernel_rfl) (by kernel_rfl) (by kernel_rfl) ?_
  unfold f_u11 at h
  exact go (mkK []) [] [] [.autoB [] true [1]] (gN1 h id fun h => gL h) (by kernel_rfl)
theorem cc_u11 {k : Nat} {b_ : T17.T} {b_22 : List (T18).T} {kind_ : Int} {x_ : Int} {y_ : Int} (h : (f_u11 k b_ b_22 kind_ x_ y_).isSome = true) : C_u11 b_ b_22 kind_ x_ y_ (v_u11 k b_ b_22 kind_ x_ y_) := ccG (Φ := C_u11 b_ b_22 kind_ x_ y_) h (of_u11 k b_ b_22 kind_ x_ y_)
abbrev R_u8 : Type := Bool
def res_u8 (r : R_u8) : AV := .r (.v (.bool r))
def bo_u8 (b_ : T17.T) (b_22 : List (T18).T) (s_ : T21.T) (c_ : T4.T) (r : R_u8) : List (Nat × Blk) := [(0, .var 140 (rvs (enc T17 b_) ++ [.own 1 0])), (0, .row 54 T18 b_22)]
def args_u8 (b_ : T17.T) (b_22 : List (T18).T) (s_ : T21.T) (c_ : T4.T) : List AV := [.ptr 0 0 0, .agg (rvs (enc T21 s_)), .agg (rvs (enc T4 c_))]
def bin_u8 (b_ : T17.T) (b_22 : List (T18).T) (s_ : T21.T) (c_ : T4.T) : List Blk := [.var 140 (rvs (enc T17 b_) ++ [.own 1 0]), .row 54 T18 b_22]
abbrev C_u8 (b_ : T17.T) (b_22 : List (T18).T) (s_ : T21.T) (c_ : T4.T) (r : R_u8) : Prop := CC Tryz.prog 82 (args_u8 b_ b_22 s_ c_) (bin_u8 b_ b_22 s_ c_) (res_u8 r) (bo_u8 b_ b_22 s_ c_ r)
def f_u8 (k : Nat) (b_ : T17.T) (b_22 : List (T18).T) (s_ : T21.T) (c_ : T4.T) : Option R_u8 :=
  if ((c_.1 == (0 : Int) && c_.2.1 == b_.2.1 && (!c_.2.2.1) && (↑ (List.length c_.2.2.2) : Int) == (1 : Int)) = true → (0 : Int) ≤ (0 : Int)) ∧ ((c_.1 == (0 : Int) && c_.2.1 == b_.2.1 && (!c_.2.2.1) && (↑ (List.length c_.2.2.2) : Int) == (1 : Int)) = true → (0 : Int) < (↑ (List.length c_.2.2.2) : Int)) then
  some (c_.1 == 0 && c_.2.1 == b_.2.1 && (!c_.2.2.1) && (↑ (List.length c_.2.2.2) : Int) == 1 && eqT T3 (List.getD c_.2.2.2 (Int.toNat 0) T3.dflt) (s_.1, IntKind.i64.wrap (s_.2 - s_.1), false))
  else none
def v_u8 (k : Nat) (b_ : T17.T) (b_22 : List (T18).T) (s_ : T21.T) (c_ : T4.T) : R_u8 := (f_u8 k b_ b_22 s_ c_).getD false
def ke_u8 (k : Nat) : Ke := (82, fun xs => match xs with
  | [.ptr _ _ _, _, _] => some [true, false, false]
  | _ => none, fun xs bs => match xs, bs with
  | [.ptr 0 0 0, .agg qs_, .agg qc_], [.var 140 qb_, .row 54 tb_22_ qb_22] => (decS [] T21 qs_).bind fun s_ => (decS [] T4 qc_).bind fun c_ => (decS [] T17 (qb_.take 22)).bind fun b_ => (castL tb_22_ T18 qb_22).bind fun b_22 => some (.one (res_u8 (v_u8 k b_ b_22 s_ c_), bo_u8 b_ b_22 s_ c_ (v_u8 k b_ b_22 s_ c_)))
  | _, _ => none)
theorem of_u8 (k : Nat) (b_ : T17.T) (b_22 : List (T18).T) (s_ : T21.T) (c_ : T4.T) (r : R_u8) (h : f_u8 k b_ b_22 s_ c_ = some r) : C_u8 b_ b_22 s_ c_ r := by
  refine CC.of (fn := Tryz.f82) (by kernel_rfl) (by kernel_rfl) (by kernel_rfl) (by kernel_rfl) ?_
  unfold f_u8 at h
  exact go (mkK []) [] [] [.autoB [6] true []] (gN2 h fun h => gL h) (by kernel_rfl)
theorem cc_u8 {k : Nat} {b_ : T17.T} {b_22 : List (T18).T} {s_ : T21.T} {c_ : T4.T} (h : (f_u8 k b_ b_22 s_ c_).isSome = true) : C_u8 b_ b_22 s_ c_ (v_u8 k b_ b_22 s_ c_) := ccG (Φ := C_u8 b_ b_22 s_ c_) h (of_u8 k b_ b_22 s_ c_)
abbrev R_u16 : Type := T17.T × List (T18).T
def res_u16 (r : R_u16) : AV := .tup []
def bo_u16 (t_ : T17.T) (t_22 : List (T18).T) (r : R_u16) : List (Nat × Blk) := [(0, .var 140 ((rvs (enc T17 r.1)) ++ [.own 1 1])), (1, .row 54 T18 r.2)]
def args_u16 (t_ : T17.T) (t_22 : List (T18).T) : List AV := [.ptr 0 0 0]
def bin_u16 (t_ : T17.T) (t_22 : List (T18).T) : List Blk := [.var 140 (rvs (enc T17 t_) ++ [.own 1 0]), .row 54 T18 t_22]
abbrev C_u16 (t_ : T17.T) (t_22 : List (T18).T) (r : R_u16) : Prop := CC Tryz.prog 37 (args_u16 t_ t_22) (bin_u16 t_ t_22) (res_u16 r) (bo_u16 t_ t_22 r)
def st_u16_17 (t_ : T17.T) (t_22 : List (T18).T) (y0 : List (T21).T) (y1 : List (T5).T) (y2 : Int) (y3 : Int) (y4 : T17.T) (y5 : List (T18).T) (y6 : List (T4).T) : St := ⟨mkS 143 [(0, .ptr 0 0 0), (7, .r (.ro T21 y0)), (8, .own 1000000 0), (93, .r (.ro T5 y1)), (94, .r (.v (.int .i64 y2))), (95, .r (.v (.int .i64 y3)))], [(0, 0, .var 140 ((rvs (enc T17 y4)) ++ [.own 1 1])), (1, 1, .row 54 T18 y5), (1000000, 0, .row 45 T4 y6)]⟩
def st_u16_23 (t_ : T17.T) (t_22 : List (T18).T) (y0 : List (T21).T) (y1 : Int) (y2 : Int) (y3 : T17.T) (y4 : List (T18).T) (y5 : List (T4).T) : St := ⟨mkS 143 [(0, .ptr 0 0 0), (7, .r (.ro T21 y0)), (8, .own 1000000 0), (112, .r (.v (.int .i64 y1))), (113, .r (.v (.int .i64 y2)))], [(0, 0, .var 140 ((rvs (enc T17 y3)) ++ [.own 1 1])), (1, 1, .row 54 T18 y4), (1000000, 0, .row 45 T4 y5)]⟩
mutual
def f_u16_17 (k : Nat) (t_ : T17.T) (t_22 : List (T18).T) : Nat → List (T21).T → List (T5).T → Int → Int → T17.T → List (T18).T → List (T4).T → Option R_u16
  | 0, _, _, _, _, _, _, _ => none
  | j + 1, y0, y1, y2, y3, y4, y5, y6 =>
  bif (decide (y3 < y2)) then
  if (0 ≤ y3) ∧ (y3 < (↑y1.length : Int)) then
  bif ((y1.getD y3.toNat T5.dflt).2.1 == (0 : Int)) then
  if ((y6.length + [(y1.getD y3.toNat T5.dflt).2.2].length) * (48 : Nat) ≤ (140737488355328 : Nat)) then
  f_u16_17 k t_ t_22 j y0 y1 y2 ((IntKind.i64.wrap (y3 + 1))) y4 y5 ((y6 ++ [(y1.getD y3.toNat T5.dflt).2.2]))
  else none
  else
  f_u16_17 k t_ t_22 j y0 y1 y2 ((IntKind.i64.wrap (y3 + 1))) y4 y5 y6
  else none
  else
  f_u16_23 k t_ t_22 j y0 ((if (↑y6.length : Int) > (↑y0.length : Int) then (↑y6.length : Int) else (↑y0.length : Int))) 0 y4 y5 y6
def f_u16_23 (k : Nat) (t_ : T17.T) (t_22 : List (T18).T) : Nat → List (T21).T → Int → Int → T17.T → List (T18).T → List (T4).T → Option R_u16
  | 0, _, _, _, _, _, _ => none
  | j + 1, y0, y1, y2, y3, y4, y5 =>
  bif (decide (y2 < y1)) then
  bif (decide (y2 ≥ (↑y0.length : Int)) || decide (y2 ≥ (↑y5.length : Int))) then
  if ((decide (y2 ≥ (↑y0.length : Int)) || decide (y2 ≥ (↑y5.length : Int))) = true) then
  if ((f_u11 k y3 y4 2 y2 0).isSome = true) then
  some (((v_u11 k y3 y4 2 y2 0).1, (v_u11 k y3 y4 2 y2 0).2))
  else none
  else none
  else
  if ((decide (y2 ≥ (↑y0.length : Int)) || decide (y2 ≥ (↑y5.length : Int))) = false) ∧ (0 ≤ y2) ∧ (y2 < (↑y0.length : Int)) ∧ (0 ≤ y2) ∧ (y2 < (↑y5.length : Int)) ∧ ((f_u8 k y3 y4 (y0.getD y2.toNat T21.dflt) (y5.getD y2.toNat T4.dflt)).isSome = true) then
  bif (false || (!v_u8 k y3 y4 (y0.getD y2.toNat T21.dflt) (y5.getD y2.toNat T4.dflt))) then
  if ((f_u11 k y3 y4 2 y2 0).isSome = true) then
  some (((v_u11 k y3 y4 2 y2 0).1, (v_u11 k y3 y4 2 y2 0).2))
  else none
  else
  f_u16_23 k t_ t_22 j y0 y1 ((IntKind.i64.wrap (y2 + 1))) y3 y4 y5
  else none
  else
  some ((y3, y4))
end
def f_u16 (k : Nat) (t_ : T17.T) (t_22 : List (T18).T) : Option R_u16 :=
  if ((f_u55 k t_.2.2.2.2.2.2.2.2.2.1).isSome = true) then
  bif (v_u55 k t_.2.2.2.2.2.2.2.2.2.1 != (0 : Int)) then
  if ((f_u11 k t_ t_22 1 (v_u55 k t_.2.2.2.2.2.2.2.2.2.1) 0).isSome = true) then
  some (((v_u11 k t_ t_22 1 (v_u55 k t_.2.2.2.2.2.2.2.2.2.1) 0).1, (v_u11 k t_ t_22 1 (v_u55 k t_.2.2.2.2.2.2.2.2.2.1) 0).2))
  else none
  else
  bif (decide ((↑ (List.length t_.2.2.2.2.2.2.2.2.2.1) : Int) > (0 : Int))) then
  if ((0 : Int) ≤ IntKind.i64.wrap ((↑ (List.length t_.2.2.2.2.2.2.2.2.2.1) : Int) - (1 : Int))) ∧ (IntKind.i64.wrap ((↑ (List.length t_.2.2.2.2.2.2.2.2.2.1) : Int) - (1 : Int)) < (↑ (List.length t_.2.2.2.2.2.2.2.2.2.1) : Int)) then
  bif ((List.getD t_.2.2.2.2.2.2.2.2.2.1 (IntKind.i64.wrap ((↑ (List.length t_.2.2.2.2.2.2.2.2.2.1) : Int) - (1 : Int))).toNat T2.dflt).2.1 != t_.2.2.1) then
  if ((f_u11 k t_ t_22 1 0 (List.getD t_.2.2.2.2.2.2.2.2.2.1 (IntKind.i64.wrap ((↑ (List.length t_.2.2.2.2.2.2.2.2.2.1) : Int) - 1)).toNat T2.dflt).2.1).isSome = true) then
  some (((v_u11 k t_ t_22 1 0 (List.getD t_.2.2.2.2.2.2.2.2.2.1 (IntKind.i64.wrap ((↑ (List.length t_.2.2.2.2.2.2.2.2.2.1) : Int) - 1)).toNat T2.dflt).2.1).1, (v_u11 k t_ t_22 1 0 (List.getD t_.2.2.2.2.2.2.2.2.2.1 (IntKind.i64.wrap ((↑ (List.length t_.2.2.2.2.2.2.2.2.2.1) : Int) - 1)).toNat T2.dflt).2.1).2))
  else none
  else
  if ((f_u58 k t_.2.2.2.2.2.2.2.2.2.1 (0, t_.2.2.2.1)).isSome = true) then
  bif ((v_u58 k t_.2.2.2.2.2.2.2.2.2.1 ((0 : Int), t_.2.2.2.1)).2 == (0 : Int)) then
  if ((f_u56 k (v_u58 k t_.2.2.2.2.2.2.2.2.2.1 (0, t_.2.2.2.1)).1 t_.2.2.2.2.2.2.2.2.2.2.1 t_.2.2.2.2.1).isSome = true) then
  bif ((v_u56 k (v_u58 k t_.2.2.2.2.2.2.2.2.2.1 ((0 : Int), t_.2.2.2.1)).1 t_.2.2.2.2.2.2.2.2.2.2.1 t_.2.2.2.2.1).2.2 != (0 : Int)) then
  if ((f_u11 k t_ t_22 2 (-1) (v_u56 k (v_u58 k t_.2.2.2.2.2.2.2.2.2.1 (0, t_.2.2.2.1)).1 t_.2.2.2.2.2.2.2.2.2.2.1 t_.2.2.2.2.1).2.2).isSome = true) then
  some (((v_u11 k t_ t_22 2 (-1) (v_u56 k (v_u58 k t_.2.2.2.2.2.2.2.2.2.1 (0, t_.2.2.2.1)).1 t_.2.2.2.2.2.2.2.2.2.2.1 t_.2.2.2.2.1).2.2).1, (v_u11 k t_ t_22 2 (-1) (v_u56 k (v_u58 k t_.2.2.2.2.2.2.2.2.2.1 (0, t_.2.2.2.1)).1 t_.2.2.2.2.2.2.2.2.2.2.1 t_.2.2.2.2.1).2.2).2))
  else none
  else
  f_u16_17 k t_ t_22 k ((v_u56 k (v_u58 k t_.2.2.2.2.2.2.2.2.2.1 (0, t_.2.2.2.1)).1 t_.2.2.2.2.2.2.2.2.2.2.1 t_.2.2.2.2.1).1) t_.2.2.2.2.2.2.2.2.2.2.2.1 ((↑ (List.length t_.2.2.2.2.2.2.2.2.2.2.2.1) : Int)) 0 t_ t_22 ([])
  else none
  else
  bif ((v_u58 k t_.2.2.2.2.2.2.2.2.2.1 ((0 : Int), t_.2.2.2.1)).2 != (0 : Int)) then
  if ((f_u11 k t_ t_22 2 (-1) (v_u58 k t_.2.2.2.2.2.2.2.2.2.1 (0, t_.2.2.2.1)).2).isSome = true) then
  some (((v_u11 k t_ t_22 2 (-1) (v_u58 k t_.2.2.2.2.2.2.2.2.2.1 (0, t_.2.2.2.1)).2).1, (v_u11 k t_ t_22 2 (-1) (v_u58 k t_.2.2.2.2.2.2.2.2.2.1 (0, t_.2.2.2.1)).2).2))
  else none
  else
  f_u16_17 k t_ t_22 k ([]) t_.2.2.2.2.2.2.2.2.2.2.2.1 ((↑ (List.length t_.2.2.2.2.2.2.2.2.2.2.2.1) : Int)) 0 t_ t_22 ([])
  else none
  else none
  else
  bif ((0 : Int) != t_.2.2.1) then
  if ((f_u11 k t_ t_22 1 0 0).isSome = true) then
  some (((v_u11 k t_ t_22 1 0 0).1, (v_u11 k t_ t_22 1 0 0).2))
  else none
  else
  if ((f_u58 k t_.2.2.2.2.2.2.2.2.2.1 (0, t_.2.2.2.1)).isSome = true) then
  bif ((v_u58 k t_.2.2.2.2.2.2.2.2.2.1 ((0 : Int), t_.2.2.2.1)).2 == (0 : Int)) then
  if ((f_u56 k (v_u58 k t_.2.2.2.2.2.2.2.2.2.1 (0, t_.2.2.2.1)).1 t_.2.2.2.2.2.2.2.2.2.2.1 t_.2.2.2.2.1).isSome = true) then
  bif ((v_u56 k (v_u58 k t_.2.2.2.2.2.2.2.2.2.1 ((0 : Int), t_.2.2.2.1)).1 t_.2.2.2.2.2.2.2.2.2.2.1 t_.2.2.2.2.1).2.2 != (0 : Int)) then
  if ((f_u11 k t_ t_22 2 (-1) (v_u56 k (v_u58 k t_.2.2.2.2.2.2.2.2.2.1 (0, t_.2.2.2.1)).1 t_.2.2.2.2.2.2.2.2.2.2.1 t_.2.2.2.2.1).2.2).isSome = true) then
  some (((v_u11 k t_ t_22 2 (-1) (v_u56 k (v_u58 k t_.2.2.2.2.2.2.2.2.2.1 (0, t_.2.2.2.1)).1 t_.2.2.2.2.2.2.2.2.2.2.1 t_.2.2.2.2.1).2.2).1, (v_u11 k t_ t_22 2 (-1) (v_u56 k (v_u58 k t_.2.2.2.2.2.2.2.2.2.1 (0, t_.2.2.2.1)).1 t_.2.2.2.2.2.2.2.2.2.2.1 t_.2.2.2.2.1).2.2).2))
  else none
  else
  f_u16_17 k t_ t_22 k ((v_u56 k (v_u58 k t_.2.2.2.2.2.2.2.2.2.1 (0, t_.2.2.2.1)).1 t_.2.2.2.2.2.2.2.2.2.2.1 t_.2.2.2.2.1).1) t_.2.2.2.2.2.2.2.2.2.2.2.1 ((↑ (List.length t_.2.2.2.2.2.2.2.2.2.2.2.1) : Int)) 0 t_ t_22 ([])
  else none
  else
  bif ((v_u58 k t_.2.2.2.2.2.2.2.2.2.1 ((0 : Int), t_.2.2.2.1)).2 != (0 : Int)) then
  if ((f_u11 k t_ t_22 2 (-1) (v_u58 k t_.2.2.2.2.2.2.2.2.2.1 (0, t_.2.2.2.1)).2).isSome = true) then
  some (((v_u11 k t_ t_22 2 (-1) (v_u58 k t_.2.2.2.2.2.2.2.2.2.1 (0, t_.2.2.2.1)).2).1, (v_u11 k t_ t_22 2 (-1) (v_u58 k t_.2.2.2.2.2.2.2.2.2.1 (0, t_.2.2.2.1)).2).2))
  else none
  else
  f_u16_17 k t_ t_22 k ([]) t_.2.2.2.2.2.2.2.2.2.2.2.1 ((↑ (List.length t_.2.2.2.2.2.2.2.2.2.2.2.1) : Int)) 0 t_ t_22 ([])
  else none
  else none
def v_u16 (k : Nat) (t_ : T17.T) (t_22 : List (T18).T) : R_u16 := (f_u16 k t_ t_22).getD ((T17).dflt, [])
def ke_u16 (k : Nat) : Ke := (37, fun xs => match xs with
  | [.ptr _ _ _] => some [true]
  | _ => none, fun xs bs => match xs, bs with
  | [.ptr 0 0 0], [.var 140 qt_, .row 54 tt_22_ qt_22] => (decS [] T17 (qt_.take 22)).bind fun t_ => (castL tt_22_ T18 qt_22).bind fun t_22 => some (.one (res_u16 (v_u16 k t_ t_22), bo_u16 t_ t_22 (v_u16 k t_ t_22)))
  | _, _ => none)
def K_u16 (k : Nat) : Calld := mkK [ke_u11 k, ke_u55 k, ke_u58 k, ke_u56 k, ke_u8 k]
def cs_u16 : List (Nat × List Cmd) := [(17, [.frz 7 false (RTy.list T21), .row 8 45 T4, .autoB [0, 7, 8, 93, 94, 95] false [1]]), (23, [.autoB [0, 7, 8, 112, 113] false [1]])]
abbrev E_u16 (t_ : T17.T) (t_22 : List (T18).T) (todo : List Item) (st : St) (o : Option R_u16) : Prop := ∀ r, o = some r → Ev Tryz.prog Tryz.f37 2 todo st (res_u16 r) (bo_u16 t_ t_22 r)
theorem ev_u16 (k : Nat) (t_ : T17.T) (t_22 : List (T18).T) : ∀ j, (∀ (y0 : List (T21).T) (y1 : List (T5).T) (y2 : Int) (y3 : Int) (y4 : T17.T) (y5 : List (T18).T) (y6 : List (T4).T), E_u16 t_ t_22 (placeAt Tryz.f37 17) (st_u16_17 t_ t_22 y0 y1 y2 y3 y4 y5 y6) (f_u16_17 k t_ t_22 j y0 y1 y2 y3 y4 y5 y6)) ∧ (∀ (y0 : List (T21).T) (y1 : Int) (y2 : Int) (y3 : T17.T) (y4 : List (T18).T) (y5 : List (T4).T), E_u16 t_ t_22 (placeAt Tryz.f37 23) (st_u16_23 t_ t_22 y0 y1 y2 y3 y4 y5) (f_u16_23 k t_ t_22 j y0 y1 y2 y3 y4 y5))
  | 0 => ⟨fun _ _ _ _ _ _ _ _ h => (nomatch h), fun _ _ _ _ _ _ _ h => (nomatch h)⟩
  | j + 1 => by
    have ih := @ev_u16 k t_ t_22 j
    refine ⟨?_, ?_⟩
    · intro y0 y1 y2 y3 y4 y5 y6 r h
      rw [f_u16_17] at h
      exact go (K_u16 k) [] cs_u16 [.autoB [] true [1]] (gT h (fun c h => gN2 h fun h => gT h (fun c h => gN1 h id fun h => gC h 17 (ih.1 _ _ _ _ _ _ _ _)) fun c h => gC h 17 (ih.1 _ _ _ _ _ _ _ _)) fun c h => gC h 23 (ih.2 _ _ _ _ _ _ _)) (by kernel_rfl)
    · intro y0 y1 y2 y3 y4 y5 r h
      rw [f_u16_23] at h
      exact go (K_u16 k) [] cs_u16 [.autoB [] true [1]] (gT h (fun c h => gT h (fun c h => gN1 h id fun h => gU1 h (.cut 23 (placeAt Tryz.f37 23) ⟨mkS 143 [(0, .ptr 0 0 0), (7, .r (.ro T21 y0)), (8, .own 1000000 0), (112, .r (.v (.int .i64 y1))), (113, .r (.v (.int .i64 ((IntKind.i64.wrap (y2 + 1))))))], [(0, 0, .var 140 ((rvs (enc T17 y3)) ++ [.own 1 1])), (1, 1, .row 54 T18 y4), (1000000, 0, .row 45 T4 y5)]⟩) fun h => gN1 h (fun q => cc_u11 q) fun h => gL h) fun c h => gN h (fun q => conjC q.1 (conjC q.2.1 (conjC q.2.2.1 (conjC q.2.2.2.1 (conjC q.2.2.2.2.1 (conjC (cc_u8 q.2.2.2.2.2) conj0)))))) fun h => gT h (fun c h => gN1 h (fun q => cc_u11 q) fun h => gL h) fun c h => gC h 23 (ih.2 _ _ _ _ _ _ _)) fun c h => gL h) (by kernel_rfl)
theorem of_u16 (k : Nat) (t_ : T17.T) (t_22 : List (T18).T) (r : R_u16) (h : f_u16 k t_ t_22 = some r) : C_u16 t_ t_22 r := by
  refine CC.of (fn := Tryz.f37) (by kernel_rfl) (by kernel_rfl) (by kernel_rfl) (by kernel_rfl) ?_
  unfold f_u16 at h
  exact go (K_u16 k) [] cs_u16 [.autoB [] true [1]] (gN1 h (fun q => cc_u55 q) fun h => gT h (fun c h => gN1 h (fun q => cc_u11 q) fun h => gL h) fun c h => gT h (fun c h => gN2 h fun h => gT h (fun c h => gN1 h (fun q => cc_u11 q) fun h => gL h) fun c h => gN1 h (fun q => cc_u58 q) fun h => gT h (fun c h => gN1 h (fun q => cc_u56 q) fun h => gT h (fun c h => gN1 h (fun q => cc_u11 q) fun h => gL h) fun c h => gC h 17 ((ev_u16 k t_ t_22 k).1 _ _ _ _ _ _ _ _)) fun c h => gT h (fun c h => gN1 h (fun q => cc_u11 q) fun h => gL h) fun c h => gC h 17 ((ev_u16 k t_ t_22 k).1 _ _ _ _ _ _ _ _)) fun c h => gT h (fun c h => gN1 h (fun q => cc_u11 q) fun h => gL h) fun c h => gN1 h (fun q => cc_u58 q) fun h => gT h (fun c h => gN1 h (fun q => cc_u56 q) fun h => gT h (fun c h => gN1 h (fun q => cc_u11 q) fun h => gL h) fun c h => gC h 17 ((ev_u16 k t_ t_22 k).1 _ _ _ _ _ _ _ _)) fun c h => gT h (fun c h => gN1 h (fun q => cc_u11 q) fun h => gL h) fun c h => gC h 17 ((ev_u16 k t_ t_22 k).1 _ _ _ _ _ _ _ _)) (by kernel_rfl)
theorem cc_u16 {k : Nat} {t_ : T17.T} {t_22 : List (T18).T} (h : (f_u16 k t_ t_22).isSome = true) : C_u16 t_ t_22 (v_u16 k t_ t_22) := ccG (Φ := C_u16 t_ t_22) h (of_u16 k t_ t_22)
abbrev R_u54 : Type := Bool
def res_u54 (r : R_u54) : AV := .r (.v (.bool r))
def bo_u54 (b_ : T17.T) (x_ : T5.T) (s_ : T21.T) (r : R_u54) : List (Nat × Blk) := []
def args_u54 (b_ : T17.T) (x_ : T5.T) (s_ : T21.T) : List AV := [.agg (rvs (enc T17 b_)), .agg (rvs (enc T5 x_)), .agg (rvs (enc T21 s_))]
def bin_u54 (b_ : T17.T) (x_ : T5.T) (s_ : T21.T) : List Blk := []
abbrev C_u54 (b_ : T17.T) (x_ : T5.T) (s_ : T21.T) (r : R_u54) : Prop := CC Tryz.prog 41 (args_u54 b_ x_ s_) (bin_u54 b_ x_ s_) (res_u54 r) (bo_u54 b_ x_ s_ r)
def f_u54 (k : Nat) (b_ : T17.T) (x_ : T5.T) (s_ : T21.T) : Option R_u54 :=
  if ((x_.2.2.1 == (0 : Int) && x_.2.2.2.1 == b_.2.1 && (!x_.2.2.2.2.1) && (↑ (List.length x_.2.2.2.2.2) : Int) == (1 : Int)) = true → (0 : Int) ≤ (0 : Int)) ∧ ((x_.2.2.1 == (0 : Int) && x_.2.2.2.1 == b_.2.1 && (!x_.2.2.2.2.1) && (↑ (List.length x_.2.2.2.2.2) : Int) == (1 : Int)) = true → (0 : Int) < (↑ (List.length x_.2.2.2.2.2) : Int)) then
  some (x_.2.2.1 == 0 && x_.2.2.2.1 == b_.2.1 && (!x_.2.2.2.2.1) && (↑ (List.length x_.2.2.2.2.2) : Int) == 1 && eqT T3 (List.getD x_.2.2.2.2.2 (Int.toNat 0) T3.dflt) (s_.1, IntKind.i64.wrap (s_.2 - s_.1), false))
  else none
def v_u54 (k : Nat) (b_ : T17.T) (x_ : T5.T) (s_ : T21.T) : R_u54 := (f_u54 k b_ x_ s_).getD false
def ke_u54 (k : Nat) : Ke := (41, fun xs => match xs with
  | [_, _, _] => some [false, false, false]
  | _ => none, fun xs bs => match xs, bs with
  | [.agg qb_, .agg qx_, .agg qs_], [] => (decS [] T17 qb_).bind fun b_ => (decS [] T5 qx_).bind fun x_ => (decS [] T21 qs_).bind fun s_ => some (.one (res_u54 (v_u54 k b_ x_ s_), bo_u54 b_ x_ s_ (v_u54 k b_ x_ s_)))
  | _, _ => none)
theorem of_u54 (k : Nat) (b_ : T17.T) (x_ : T5.T) (s_ : T21.T) (r : R_u54) (h : f_u54 k b_ x_ s_ = some r) : C_u54 b_ x_ s_ r := by
  refine CC.of (fn := Tryz.f41) (by kernel_rfl) (by kernel_rfl) (by kernel_rfl) (by kernel_rfl) ?_
  unfold f_u54 at h
  exact go (mkK []) [] [] [.autoB [6] true []] (gN2 h fun h => gL h) (by kernel_rfl)
theorem cc_u54 {k : Nat} {b_ : T17.T} {x_ : T5.T} {s_ : T21.T} (h : (f_u54 k b_ x_ s_).isSome = true) : C_u54 b_ x_ s_ (v_u54 k b_ x_ s_) := ccG (Φ := C_u54 b_ x_ s_) h (of_u54 k b_ x_ s_)
abbrev R_u53 : Type := List (T18).T × Int
def res_u53 (r : R_u53) : AV := .tup [.r (.ro T18 r.1), .r (.v (.int .i64 r.2))]
def bo_u53 (b_ : T17.T) (r : R_u53) : List (Nat × Blk) := []
def args_u53 (b_ : T17.T) : List AV := [.agg (rvs (enc T17 b_))]
def bin_u53 (b_ : T17.T) : List Blk := []
abbrev C_u53 (b_ : T17.T) (r : R_u53) : Prop := CC Tryz.prog 16 (args_u53 b_) (bin_u53 b_) (res_u53 r) (bo_u53 b_ r)
def st_u53_20 (y0 : List (T21).T) (y1 : Int) (y2 : Int) (y3 : T17.T) : St := ⟨mkS 117 [(1, .ptr 1000000 0 0), (7, .r (.ro T21 y0)), (9, .r (.v (.int .i64 y1))), (10, .r (.v (.int .i64 y2)))], [(1000000, 0, .var 36 (rvs (enc T17 y3)))]⟩
def f_u53_20 (k : Nat) : Nat → List (T21).T → Int → Int → T17.T → Option R_u53
  | 0, _, _, _, _ => none
  | j + 1, y0, y1, y2, y3 =>
  bif (decide (y2 < (↑ (List.length y3.2.2.2.2.2.2.2.2.2.2.2.1) : Int))) then
  if (0 ≤ y2) ∧ (y2 < (↑ (List.length y3.2.2.2.2.2.2.2.2.2.2.2.1) : Int)) then
  bif ((List.getD y3.2.2.2.2.2.2.2.2.2.2.2.1 y2.toNat T5.dflt).2.1 == (0 : Int)) then
  bif (decide (y1 ≥ (↑y0.length : Int))) then
  if (decide (y1 ≥ (↑y0.length : Int)) = true) then
  some (([(2, y1, 0)], 0))
  else none
  else
  if (decide (y1 ≥ (↑y0.length : Int)) = false) ∧ (0 ≤ y2) ∧ (y2 < (↑ (List.length y3.2.2.2.2.2.2.2.2.2.2.2.1) : Int)) ∧ (0 ≤ y1) ∧ (y1 < (↑y0.length : Int)) ∧ ((f_u54 k y3 (List.getD y3.2.2.2.2.2.2.2.2.2.2.2.1 y2.toNat T5.dflt) (y0.getD y1.toNat T21.dflt)).isSome = true) then
  bif (false || (!v_u54 k y3 (List.getD y3.2.2.2.2.2.2.2.2.2.2.2.1 y2.toNat T5.dflt) (y0.getD y1.toNat T21.dflt))) then
  some (([(2, y1, 0)], 0))
  else
  f_u53_20 k j y0 ((IntKind.i64.wrap (y1 + 1))) ((IntKind.i64.wrap (y2 + 1))) y3
  else none
  else
  f_u53_20 k j y0 y1 ((IntKind.i64.wrap (y2 + 1))) y3
  else none
  else
  bif (decide (y1 < (↑y0.length : Int))) then
  some (([(2, y1, 0)], 0))
  else
  some (([], 0))
def f_u53 (k : Nat) (b_ : T17.T) : Option R_u53 :=
  if ((f_u52 k b_).isSome = true) then
  bif (v_u52 k b_ != (0 : Int)) then
  some (([], v_u52 k b_))
  else
  if ((f_u46 k b_.2.2.2.2.2.2.2.2.2.1).isSome = true) then
  bif (v_u46 k b_.2.2.2.2.2.2.2.2.2.1 != (0 : Int)) then
  some (([(1, v_u46 k b_.2.2.2.2.2.2.2.2.2.1, 0)], 0))
  else
  bif (decide ((↑ (List.length b_.2.2.2.2.2.2.2.2.2.1) : Int) > (0 : Int))) then
  if ((0 : Int) ≤ IntKind.i64.wrap ((↑ (List.length b_.2.2.2.2.2.2.2.2.2.1) : Int) - (1 : Int))) ∧ (IntKind.i64.wrap ((↑ (List.length b_.2.2.2.2.2.2.2.2.2.1) : Int) - (1 : Int)) < (↑ (List.length b_.2.2.2.2.2.2.2.2.2.1) : Int)) then
  bif ((List.getD b_.2.2.2.2.2.2.2.2.2.1 (IntKind.i64.wrap ((↑ (List.length b_.2.2.2.2.2.2.2.2.2.1) : Int) - (1 : Int))).toNat T2.dflt).2.1 != b_.2.2.1) then
  some (([(1, 0, (List.getD b_.2.2.2.2.2.2.2.2.2.1 (IntKind.i64.wrap ((↑ (List.length b_.2.2.2.2.2.2.2.2.2.1) : Int) - 1)).toNat T2.dflt).2.1)], 0))
  else
  if ((f_u48 k b_.2.2.2.2.2.2.2.2.2.1 (0, b_.2.2.2.1)).isSome = true) then
  bif ((v_u48 k b_.2.2.2.2.2.2.2.2.2.1 ((0 : Int), b_.2.2.2.1)).2 != (0 : Int)) then
  some (([(2, (-1), (v_u48 k b_.2.2.2.2.2.2.2.2.2.1 (0, b_.2.2.2.1)).2)], 0))
  else
  if ((f_u47 k (v_u48 k b_.2.2.2.2.2.2.2.2.2.1 (0, b_.2.2.2.1)).1 b_.2.2.2.2.2.2.2.2.2.2.1 b_.2.2.2.2.1).isSome = true) then
  bif ((v_u47 k (v_u48 k b_.2.2.2.2.2.2.2.2.2.1 ((0 : Int), b_.2.2.2.1)).1 b_.2.2.2.2.2.2.2.2.2.2.1 b_.2.2.2.2.1).2.2 != (0 : Int)) then
  some (([(2, (-1), (v_u47 k (v_u48 k b_.2.2.2.2.2.2.2.2.2.1 (0, b_.2.2.2.1)).1 b_.2.2.2.2.2.2.2.2.2.2.1 b_.2.2.2.2.1).2.2)], 0))
  else
  f_u53_20 k k ((v_u47 k (v_u48 k b_.2.2.2.2.2.2.2.2.2.1 (0, b_.2.2.2.1)).1 b_.2.2.2.2.2.2.2.2.2.2.1 b_.2.2.2.2.1).1) 0 0 b_
  else none
  else none
  else none
  else
  bif ((0 : Int) != b_.2.2.1) then
  some (([(1, 0, 0)], 0))
  else
  if ((f_u48 k b_.2.2.2.2.2.2.2.2.2.1 (0, b_.2.2.2.1)).isSome = true) then
  bif ((v_u48 k b_.2.2.2.2.2.2.2.2.2.1 ((0 : Int), b_.2.2.2.1)).2 != (0 : Int)) then
  some (([(2, (-1), (v_u48 k b_.2.2.2.2.2.2.2.2.2.1 (0, b_.2.2.2.1)).2)], 0))
  else
  if ((f_u47 k (v_u48 k b_.2.2.2.2.2.2.2.2.2.1 (0, b_.2.2.2.1)).1 b_.2.2.2.2.2.2.2.2.2.2.1 b_.2.2.2.2.1).isSome = true) then
  bif ((v_u47 k (v_u48 k b_.2.2.2.2.2.2.2.2.2.1 ((0 : Int), b_.2.2.2.1)).1 b_.2.2.2.2.2.2.2.2.2.2.1 b_.2.2.2.2.1).2.2 != (0 : Int)) then
  some (([(2, (-1), (v_u47 k (v_u48 k b_.2.2.2.2.2.2.2.2.2.1 (0, b_.2.2.2.1)).1 b_.2.2.2.2.2.2.2.2.2.2.1 b_.2.2.2.2.1).2.2)], 0))
  else
  f_u53_20 k k ((v_u47 k (v_u48 k b_.2.2.2.2.2.2.2.2.2.1 (0, b_.2.2.2.1)).1 b_.2.2.2.2.2.2.2.2.2.2.1 b_.2.2.2.2.1).1) 0 0 b_
  else none
  else none
  else none
  else none
def v_u53 (k : Nat) (b_ : T17.T) : R_u53 := (f_u53 k b_).getD ([], 0)
def ke_u53 (k : Nat) : Ke := (16, fun xs => match xs with
  | [_] => some [false]
  | _ => none, fun xs bs => match xs, bs with
  | [.agg qb_], [] => (decS [] T17 qb_).bind fun b_ => some (.one (res_u53 (v_u53 k b_), bo_u53 b_ (v_u53 k b_)))
  | _, _ => none)
def K_u53 (k : Nat) : Calld := mkK [ke_u52 k, ke_u46 k, ke_u48 k, ke_u47 k, ke_u54 k]
def cs_u53 : List (Nat × List Cmd) := [(20, [.autoB [1, 7, 9, 10] false []])]
abbrev E_u53 (b_ : T17.T) (todo : List Item) (st : St) (o : Option R_u53) : Prop := ∀ r, o = some r → Ev Tryz.prog Tryz.f16 0 todo st (res_u53 r) (bo_u53 b_ r)
theorem ev_u53 (k : Nat) (b_ : T17.T) : ∀ j, (∀ (y0 : List (T21).T) (y1 : Int) (y2 : Int) (y3 : T17.T), E_u53 b_ (placeAt Tryz.f16 20) (st_u53_20 y0 y1 y2 y3) (f_u53_20 k j y0 y1 y2 y3))
  | 0 => fun _ _ _ _ _ h => (nomatch h)
  | j + 1 => by
    have ih := @ev_u53 k b_ j
    · intro y0 y1 y2 y3 r h
      rw [f_u53_20] at h
      exact go (K_u53 k) [] cs_u53 [.frz 2 false (RTy.list T18), .autoB [2, 3] true []] (gT h (fun c h => gN2 h fun h => gT h (fun c h => gT h (fun c h => gN1 h id fun h => gU1 h (.cut 20 (placeAt Tryz.f16 20) ⟨mkS 117 [(1, .ptr 1000000 0 0), (7, .r (.ro T21 y0)), (9, .r (.v (.int .i64 ((IntKind.i64.wrap (y1 + 1)))))), (10, .r (.v (.int .i64 ((IntKind.i64.wrap (y2 + 1))))))], [(1000000, 0, .var 36 (rvs (enc T17 y3)))]⟩) fun h => gL h) fun c h => gN h (fun q => conjC q.1 (conjC q.2.1 (conjC q.2.2.1 (conjC q.2.2.2.1 (conjC q.2.2.2.2.1 (conjC (cc_u54 q.2.2.2.2.2) conj0)))))) fun h => gT h (fun c h => gL h) fun c h => gC h 20 (ih _ _ _ _ _)) fun c h => gC h 20 (ih _ _ _ _ _)) fun c h => gT h (fun c h => gL h) fun c h => gL h) (by kernel_rfl)
theorem of_u53 (k : Nat) (b_ : T17.T) (r : R_u53) (h : f_u53 k b_ = some r) : C_u53 b_ r := by
  refine CC.of (fn := Tryz.f16) (by kernel_rfl) (by kernel_rfl) (by kernel_rfl) (by kernel_rfl) ?_
  unfold f_u53 at h
  exact go (K_u53 k) [] cs_u53 [.frz 2 false (RTy.list T18), .autoB [2, 3] true []] (gN1 h (fun q => cc_u52 q) fun h => gT h (fun c h => gL h) fun c h => gN1 h (fun q => cc_u46 q) fun h => gT h (fun c h => gL h) fun c h => gT h (fun c h => gN2 h fun h => gT h (fun c h => gL h) fun c h => gN1 h (fun q => cc_u48 q) fun h => gT h (fun c h => gL h) fun c h => gN1 h (fun q => cc_u47 q) fun h => gT h (fun c h => gL h) fun c h => gC h 20 ((ev_u53 k b_ k) _ _ _ _ _)) fun c h => gT h (fun c h => gL h) fun c h => gN1 h (fun q => cc_u48 q) fun h => gT h (fun c h => gL h) fun c h => gN1 h (fun q => cc_u47 q) fun h => gT h (fun c h => gL h) fun c h => gC h 20 ((ev_u53 k b_ k) _ _ _ _ _)) (by kernel_rfl)
theorem cc_u53 {k : Nat} {b_ : T17.T} (h : (f_u53 k b_).isSome = true) : C_u53 b_ (v_u53 k b_) := ccG (Φ := C_u53 b_) h (of_u53 k b_)
abbrev R_u7 : Type := T17.T
def res_u7 (r : R_u7) : AV := .sub 2 0 1 0 1
def bo_u7 (x_ : T17.T) (x_22 : List (T18).T) (r : R_u7) : List (Nat × Blk) := [(0, .var 140 ((rvs (enc T17 r)) ++ [.own 1 0])), (0, .row 54 T18 x_22), (0, .var 1 [.fn ((Fn.func 37)) [.ptr 0 0 0] []])]
def args_u7 (x_ : T17.T) (x_22 : List (T18).T) : List AV := [.ptr 0 0 0]
def bin_u7 (x_ : T17.T) (x_22 : List (T18).T) : List Blk := [.var 140 (rvs (enc T17 x_) ++ [.own 1 0]), .row 54 T18 x_22]
abbrev C_u7 (x_ : T17.T) (x_22 : List (T18).T) (r : R_u7) : Prop := CC Tryz.prog 36 (args_u7 x_ x_22) (bin_u7 x_ x_22) (res_u7 r) (bo_u7 x_ x_22 r)
def f_u7 (k : Nat) (x_ : T17.T) (x_22 : List (T18).T) : Option R_u7 :=
  some x_
def v_u7 (k : Nat) (x_ : T17.T) (x_22 : List (T18).T) : R_u7 := (f_u7 k x_ x_22).getD (T17).dflt
def ke_u7 (k : Nat) : Ke := (36, fun xs => match xs with
  | [.ptr _ _ _] => some [true]
  | _ => none, fun xs bs => match xs, bs with
  | [.ptr 0 0 0], [.var 140 qx_, .row 54 tx_22_ qx_22] => (decS [] T17 (qx_.take 22)).bind fun x_ => (castL tx_22_ T18 qx_22).bind fun x_22 => some (.one (res_u7 (v_u7 k x_ x_22), bo_u7 x_ x_22 (v_u7 k x_ x_22)))
  | _, _ => none)
theorem of_u7 (k : Nat) (x_ : T17.T) (x_22 : List (T18).T) (r : R_u7) (h : f_u7 k x_ x_22 = some r) : C_u7 x_ x_22 r := by
  refine CC.of (fn := Tryz.f36) (by kernel_rfl) (by kernel_rfl) (by kernel_rfl) (by kernel_rfl) ?_
  unfold f_u7 at h
  exact go (mkK [ke_u16 k]) [] [] [.autoB [2] true []] (gL h) (by kernel_rfl)
theorem cc_u7 {k : Nat} {x_ : T17.T} {x_22 : List (T18).T} (h : (f_u7 k x_ x_22).isSome = true) : C_u7 x_ x_22 (v_u7 k x_ x_22) := ccG (Φ := C_u7 x_ x_22) h (of_u7 k x_ x_22)
abbrev R_u22 : Type := List (T18).T × Int
def res_u22 (r : R_u22) : AV := .tup [.r (.ro T18 r.1), .r (.v (.int .i64 r.2))]
def bo_u22 (b_ : T17.T) (r : R_u22) : List (Nat × Blk) := []
def args_u22 (b_ : T17.T) : List AV := [.agg (rvs (enc T17 b_)), .r (.v (.func (.func 36) #[] #[]))]
def bin_u22 (b_ : T17.T) : List Blk := []
abbrev C_u22 (b_ : T17.T) (r : R_u22) : Prop := CC Tryz.prog 33 (args_u22 b_) (bin_u22 b_) (res_u22 r) (bo_u22 b_ r)
def st_u22_10005 (y0 : T17.T) (y1 : List (T18).T) : St := ⟨mkS 29 [(6, .ptr 1000000 0 0), (16, .sub 1000002 0 1 0 1), (17, .r (.v (.int .i64 1))), (18, .r (.v (.int .i64 0)))], [(1000000, 0, .var 140 ((rvs (enc T17 y0)) ++ [.own 1000001 0])), (1000001, 0, .row 54 T18 y1), (1000002, 0, .var 1 [.fn ((Fn.func 37)) [.ptr 1000000 0 0] []])]⟩
def st_u22_20005 (y0 : T17.T) (y1 : List (T18).T) : St := ⟨mkS 29 [(6, .ptr 1000000 0 0), (16, .sub 1000002 0 1 0 1), (17, .r (.v (.int .i64 1))), (18, .r (.v (.int .i64 1)))], [(1000000, 0, .var 140 ((rvs (enc T17 y0)) ++ [.own 1000001 0])), (1000001, 0, .row 54 T18 y1), (1000002, 0, .var 1 [.fn ((Fn.func 37)) [.ptr 1000000 0 0] []])]⟩
mutual
def f_u22_10005 (k : Nat) : Nat → T17.T → List (T18).T → Option R_u22
  | 0, _, _ => none
  | j + 1, y0, y1 =>
  if ((0 : Int) ≤ (0 : Int)) ∧ ((0 : Int) < (↑ (1 : Nat) : Int)) then
  if ((f_u16 k y0 y1).isSome = true) then
  f_u22_20005 k j ((v_u16 k y0 y1).1) ((v_u16 k y0 y1).2)
  else none
  else none
def f_u22_20005 (k : Nat) : Nat → T17.T → List (T18).T → Option R_u22
  | 0, _, _ => none
  | j + 1, y0, y1 =>
  some ((y1, 0))
end
def f_u22 (k : Nat) (b_ : T17.T) : Option R_u22 :=
  if ((f_u17 k b_).isSome = true) then
  bif (v_u17 k b_) then
  some (([], 8))
  else
  if ((f_u7 k b_ []).isSome = true) then
  f_u22_10005 k k ((v_u7 k b_ [])) ([])
  else none
  else none
def v_u22 (k : Nat) (b_ : T17.T) : R_u22 := (f_u22 k b_).getD ([], 0)
def ke_u22 (k : Nat) : Ke := (33, fun xs => match xs with
  | [_, .r (.v (.func (.func 36) _ _))] => some [false, false]
  | _ => none, fun xs bs => match xs, bs with
  | [.agg qb_, .r (.v (.func (.func 36) _ _))], [] => (decS [] T17 qb_).bind fun b_ => some (.one (res_u22 (v_u22 k b_), bo_u22 b_ (v_u22 k b_)))
  | _, _ => none)
def K_u22 (k : Nat) : Calld := mkK [ke_u17 k, ke_u16 k, ke_u7 k]
def cs_u22 : List (Nat × List Cmd) := [(5, [.key 18, .autoB [6, 16, 17, 18] false []])]
abbrev E_u22 (b_ : T17.T) (todo : List Item) (st : St) (o : Option R_u22) : Prop := ∀ r, o = some r → Ev Tryz.prog Tryz.f33 0 todo st (res_u22 r) (bo_u22 b_ r)
theorem ev_u22 (k : Nat) (b_ : T17.T) : ∀ j, (∀ (y0 : T17.T) (y1 : List (T18).T), E_u22 b_ (placeAt Tryz.f33 5) (st_u22_10005 y0 y1) (f_u22_10005 k j y0 y1)) ∧ (∀ (y0 : T17.T) (y1 : List (T18).T), E_u22 b_ (placeAt Tryz.f33 5) (st_u22_20005 y0 y1) (f_u22_20005 k j y0 y1))
  | 0 => ⟨fun _ _ _ h => (nomatch h), fun _ _ _ h => (nomatch h)⟩
  | j + 1 => by
    have ih := @ev_u22 k b_ j
    refine ⟨?_, ?_⟩
    · intro y0 y1 r h
      rw [f_u22_10005] at h
      exact go (K_u22 k) [] cs_u22 [.frz 4 false (RTy.list T18), .autoB [4, 5] true []] (gU1 h (.leaf (.tup [.r (.ro T18 y1), .r (.v (.int .i64 0))]) []) fun h => gN2 h fun h => gN1 h (fun q => cc_u16 q) fun h => gC h 20005 (ih.2 _ _ _)) (by kernel_rfl)
    · intro y0 y1 r h
      rw [f_u22_20005] at h
      exact go (K_u22 k) [] cs_u22 [.frz 4 false (RTy.list T18), .autoB [4, 5] true []] (gU2 h (.stuck 5001) fun h => gL h) (by kernel_rfl)
theorem of_u22 (k : Nat) (b_ : T17.T) (r : R_u22) (h : f_u22 k b_ = some r) : C_u22 b_ r := by
  refine CC.of (fn := Tryz.f33) (by kernel_rfl) (by kernel_rfl) (by kernel_rfl) (by kernel_rfl) ?_
  unfold f_u22 at h
  exact go (K_u22 k) [] cs_u22 [.frz 4 false (RTy.list T18), .autoB [4, 5] true []] (gN1 h (fun q => cc_u17 q) fun h => gT h (fun c h => gL h) fun c h => gN1 h (fun q => cc_u7 q) fun h => gC h 10005 ((ev_u22 k b_ k).1 _ _ _)) (by kernel_rfl)
theorem cc_u22 {k : Nat} {b_ : T17.T} (h : (f_u22 k b_).isSome = true) : C_u22 b_ (v_u22 k b_) := ccG (Φ := C_u22 b_) h (of_u22 k b_)
abbrev R_u6 : Type := List (T18).T × Int
def res_u6 (r : R_u6) : AV := .tup [.r (.ro T18 r.1), .r (.v (.int .i64 r.2))]
def bo_u6 (b_ : T17.T) (r : R_u6) : List (Nat × Blk) := []
def args_u6 (b_ : T17.T) : List AV := [.agg (rvs (enc T17 b_))]
def bin_u6 (b_ : T17.T) : List Blk := []
abbrev C_u6 (b_ : T17.T) (r : R_u6) : Prop := CC Tryz.prog 15 (args_u6 b_) (bin_u6 b_) (res_u6 r) (bo_u6 b_ r)
def f_u6 (k : Nat) (b_ : T17.T) : Option R_u6 :=
  if ((f_u22 k b_).isSome = true) then
  some (((v_u22 k b_).1, (v_u22 k b_).2))
  else none
def v_u6 (k : Nat) (b_ : T17.T) : R_u6 := (f_u6 k b_).getD ([], 0)
def ke_u6 (k : Nat) : Ke := (15, fun xs => match xs with
  | [_] => some [false]
  | _ => none, fun xs bs => match xs, bs with
  | [.agg qb_], [] => (decS [] T17 qb_).bind fun b_ => some (.one (res_u6 (v_u6 k b_), bo_u6 b_ (v_u6 k b_)))
  | _, _ => none)
theorem of_u6 (k : Nat) (b_ : T17.T) (r : R_u6) (h : f_u6 k b_ = some r) : C_u6 b_ r := by
  refine CC.of (fn := Tryz.f15) (by kernel_rfl) (by kernel_rfl) (by kernel_rfl) (by kernel_rfl) ?_
  unfold f_u6 at h
  exact go (mkK [ke_u7 k, ke_u22 k]) [] [] [.frz 2 false (RTy.list T18), .autoB [2, 3] true []] (gN1 h (fun q => cc_u22 q) fun h => gL h) (by kernel_rfl)
theorem cc_u6 {k : Nat} {b_ : T17.T} (h : (f_u6 k b_).isSome = true) : C_u6 b_ (v_u6 k b_) := ccG (Φ := C_u6 b_) h (of_u6 k b_)

end
/-! ### Web -/
abbrev Fnd := Int × Int × Int
def agrS (w : Int) (c : T4.T) (s : Int × Int) : Bool := c.1 == 0 && c.2.1 == w && (!c.2.2.1) && (c.2.2.2.length : Int) == 1 && eqT T3 (List.getD c.2.2.2 (Int.toNat 0) T3.dflt) (s.1, IntKind.i64.wrap (s.2 - s.1), false)
theorem agr_need (a : Bool) (l : List T3.T) (h : (a && (l.length : Int) == (1 : Int)) = true) : (0 : Int) < (l.length : Int) := by
  have := (Bool.and_eq_true_iff.1 h).2
  have := beq_iff_eq.1 this
  omega
theorem agree_s (k : Nat) (b : T17.T) (fnd : List Fnd) (s : Int × Int) (c : T4.T) : f_u8 k b fnd s c = some (agrS (b.2.1) c s) := by
  unfold f_u8
  rw [if_pos ⟨fun _ => Int.le_refl _, fun h => agr_need _ _ h⟩]; rfl
theorem agree_v (k : Nat) (b : T17.T) (fnd : List Fnd) (s : Int × Int) (c : T4.T) : v_u8 k b fnd s c = agrS (b.2.1) c s := by
  unfold v_u8; rw [agree_s]; rfl
theorem agrees_s (k : Nat) (b : T17.T) (x : T5.T) (s : Int × Int) : f_u54 k b x s = some (agrS (b.2.1) x.2.2 s) := by
  unfold f_u54
  rw [if_pos ⟨fun _ => Int.le_refl _, fun h => agr_need _ _ h⟩]; rfl
theorem agrees_v (k : Nat) (b : T17.T) (x : T5.T) (s : Int × Int) : v_u54 k b x s = agrS (b.2.1) x.2.2 s := by
  unfold v_u54; rw [agrees_s]; rfl
theorem find_s (k : Nat) (b : T17.T) (fnd : List Fnd) (x y z : Int) (h : fnd.length ≤ 1000000) : f_u11 k b fnd x y z = some (b, fnd ++ [(x, y, z)]) := by
  unfold f_u11
  rw [if_pos (by simp only [List.length_singleton]; omega)]
theorem find_v (k : Nat) (b : T17.T) (fnd : List Fnd) (x y z : Int) (h : fnd.length ≤ 1000000) : v_u11 k b fnd x y z = (b, fnd ++ [(x, y, z)]) := by
  unfold v_u11; rw [find_s k b fnd x y z h]; rfl
def webG (w : Int) : List (Int × Int) → List T4.T → Int → List Fnd
  | [], [], _ => []
  | s :: rs, c :: cs, i => bif agrS w c s then webG w rs cs (i + 1) else [(2, i, 0)]
  | [], _ :: _, i => [(2, i, 0)]
  | _ :: _, [], i => [(2, i, 0)]
def kids : List T5.T → List T4.T
  | [] => []
  | x :: t => bif x.2.1 == (0 : Int) then x.2.2 :: kids t else kids t
def tailS (b : T17.T) : List Fnd :=
  if (partsE (b.2.2.2.2.2.2.2.2.2.1) (b.2.2.2.1)).2 ≠ 0 then [(2, -1, (partsE (b.2.2.2.2.2.2.2.2.2.1) (b.2.2.2.1)).2)]
  else if (cutE (partsE (b.2.2.2.2.2.2.2.2.2.1) (b.2.2.2.1)).1 (b.2.2.2.2.2.2.2.2.2.2.1) (b.2.2.2.2.1)).2.2 ≠ 0 then [(2, -1, (cutE (partsE (b.2.2.2.2.2.2.2.2.2.1) (b.2.2.2.1)).1 (b.2.2.2.2.2.2.2.2.2.2.1) (b.2.2.2.2.1)).2.2)]
  else webG (b.2.1) (cutE (partsE (b.2.2.2.2.2.2.2.2.2.1) (b.2.2.2.1)).1 (b.2.2.2.2.2.2.2.2.2.2.1) (b.2.2.2.2.1)).1 (kids (b.2.2.2.2.2.2.2.2.2.2.2.1)) 0
def webS (b : T17.T) : List Fnd :=
  if secE (b.2.2.2.2.2.2.2.2.2.1) ≠ 0 then [(1, secE (b.2.2.2.2.2.2.2.2.2.1), 0)] else if endS (b.2.2.2.2.2.2.2.2.2.1) ≠ b.2.2.1 then [(1, 0, endS (b.2.2.2.2.2.2.2.2.2.1))] else tailS b

theorem tailS_p (b : T17.T) (h : (partsE (b.2.2.2.2.2.2.2.2.2.1) (b.2.2.2.1)).2 ≠ 0) : tailS b = [(2, -1, (partsE (b.2.2.2.2.2.2.2.2.2.1) (b.2.2.2.1)).2)] := by unfold tailS; rw [if_pos h]
theorem tailS_c (b : T17.T) (h : (partsE (b.2.2.2.2.2.2.2.2.2.1) (b.2.2.2.1)).2 = 0) (h2 : (cutE (partsE (b.2.2.2.2.2.2.2.2.2.1) (b.2.2.2.1)).1 (b.2.2.2.2.2.2.2.2.2.2.1) (b.2.2.2.2.1)).2.2 ≠ 0) : tailS b = [(2, -1, (cutE (partsE (b.2.2.2.2.2.2.2.2.2.1) (b.2.2.2.1)).1 (b.2.2.2.2.2.2.2.2.2.2.1) (b.2.2.2.2.1)).2.2)] := by unfold tailS; rw [if_neg (fun x => x h), if_pos h2]
theorem tailS_g (b : T17.T) (h : (partsE (b.2.2.2.2.2.2.2.2.2.1) (b.2.2.2.1)).2 = 0) (h2 : (cutE (partsE (b.2.2.2.2.2.2.2.2.2.1) (b.2.2.2.1)).1 (b.2.2.2.2.2.2.2.2.2.2.1) (b.2.2.2.2.1)).2.2 = 0) : tailS b = webG (b.2.1) (cutE (partsE (b.2.2.2.2.2.2.2.2.2.1) (b.2.2.2.1)).1 (b.2.2.2.2.2.2.2.2.2.2.1) (b.2.2.2.2.1)).1 (kids (b.2.2.2.2.2.2.2.2.2.2.2.1)) 0 := by unfold tailS; rw [if_neg (fun x => x h), if_neg (fun x => x h2)]
theorem webS_z (b : T17.T) (h : secE (b.2.2.2.2.2.2.2.2.2.1) ≠ 0) : webS b = [(1, secE (b.2.2.2.2.2.2.2.2.2.1), 0)] := by unfold webS; rw [if_pos h]
theorem webS_m (b : T17.T) (h : secE (b.2.2.2.2.2.2.2.2.2.1) = 0) (h2 : endS (b.2.2.2.2.2.2.2.2.2.1) ≠ b.2.2.1) : webS b = [(1, 0, endS (b.2.2.2.2.2.2.2.2.2.1))] := by unfold webS; rw [if_neg (fun x => x h), if_pos h2]
theorem webS_t (b : T17.T) (h : secE (b.2.2.2.2.2.2.2.2.2.1) = 0) (h2 : endS (b.2.2.2.2.2.2.2.2.2.1) = b.2.2.1) : webS b = tailS b := by unfold webS; rw [if_neg (fun x => x h), if_neg (fun x => x h2)]

theorem web_23 (k : Nat) (b q : T17.T) (fnd q2 : List Fnd) (hf : fnd.length ≤ 1000) (rs : List (Int × Int)) (cs : List T4.T) (m : Nat) (hm : m = max rs.length cs.length) (hb : m ≤ 100000) : ∀ (d i j : Nat), i + d = m → d < j →
    f_u16_23 k q q2 j rs (m : Int) (i : Int) b fnd cs = some (b, fnd ++ webG (b.2.1) (rs.drop i) (cs.drop i) (i : Int)) := by
  intro d
  induction d with
  | zero =>
    intro i j hi hj
    obtain ⟨j, rfl⟩ : ∃ q, j = q + 1 := ⟨j - 1, by omega⟩
    rw [f_u16_23, decide_eq_false (by omega : ¬ (i : Int) < (m : Int)), cond_false, List.drop_of_length_le (by omega), List.drop_of_length_le (by omega), webG, List.append_nil]
  | succ d ih =>
    intro i j hi hj
    obtain ⟨j, rfl⟩ : ∃ q, j = q + 1 := ⟨j - 1, by omega⟩
    rw [f_u16_23, decide_eq_true (by omega : (i : Int) < (m : Int)), cond_true]
    by_cases hr : i < rs.length
    · by_cases hc : i < cs.length
      · have hd : (decide ((i : Int) ≥ (rs.length : Int)) || decide ((i : Int) ≥ (cs.length : Int))) = false := by
          rw [decide_eq_false (by omega : ¬ (i : Int) ≥ (rs.length : Int)), decide_eq_false (by omega : ¬ (i : Int) ≥ (cs.length : Int))]; rfl
        rw [hd, cond_false, Int.toNat_natCast, agree_s, agree_v, Option.isSome_some, if_pos ⟨rfl, by omega, by omega, by omega, by omega, rfl⟩, Bool.false_or, find_s k b fnd _ _ _ (by omega), find_v k b fnd _ _ _ (by omega), wrapS i (by omega), ih (i + 1) j (by omega) (by omega), drop_cons' rs i T21.dflt hr, drop_cons' cs i T4.dflt hc, webG]
        cases agrS (b.2.1) (cs.getD i T4.dflt) (rs.getD i T21.dflt) <;> rfl
      · have hd : (decide ((i : Int) ≥ (rs.length : Int)) || decide ((i : Int) ≥ (cs.length : Int))) = true := by
          rw [decide_eq_true (by omega : (i : Int) ≥ (cs.length : Int)), Bool.or_true]
        rw [hd, cond_true, if_pos rfl, find_s k b fnd _ _ _ (by omega), find_v k b fnd _ _ _ (by omega), Option.isSome_some, if_pos rfl, drop_cons' rs i T21.dflt hr, List.drop_of_length_le (by omega : cs.length ≤ i), webG]
    · have hd : (decide ((i : Int) ≥ (rs.length : Int)) || decide ((i : Int) ≥ (cs.length : Int))) = true := by
        rw [decide_eq_true (by omega : (i : Int) ≥ (rs.length : Int)), Bool.true_or]
      have hc : i < cs.length := by omega
      rw [hd, cond_true, if_pos rfl, find_s k b fnd _ _ _ (by omega), find_v k b fnd _ _ _ (by omega), Option.isSome_some, if_pos rfl, List.drop_of_length_le (by omega : rs.length ≤ i), drop_cons' cs i T4.dflt hc, webG]
theorem web_17 (k : Nat) (b q : T17.T) (fnd q2 : List Fnd) (hf : fnd.length ≤ 1000) (rs : List (Int × Int)) (hrs : rs.length ≤ 50000) (l : List T5.T) (hl : l.length ≤ 40) : ∀ (d i j : Nat) (acc : List T4.T), i + d = l.length → d + 50050 < j → acc.length ≤ i →
    f_u16_17 k q q2 j rs l (l.length : Int) (i : Int) b fnd acc = some (b, fnd ++ webG (b.2.1) rs (acc ++ kids (l.drop i)) 0) := by
  intro d
  induction d with
  | zero =>
    intro i j acc hi hj ha
    obtain ⟨j, rfl⟩ : ∃ q, j = q + 1 := ⟨j - 1, by omega⟩
    rw [f_u16_17, decide_eq_false (by omega : ¬ (i : Int) < (l.length : Int)), cond_false, List.drop_of_length_le (by omega), kids, List.append_nil]
    have hm : (if (acc.length : Int) > (rs.length : Int) then (acc.length : Int) else (rs.length : Int)) = ((max rs.length acc.length : Nat) : Int) := by split <;> omega
    rw [hm]
    exact web_23 k b q fnd q2 hf rs acc (max rs.length acc.length) rfl (by omega) (max rs.length acc.length) 0 j (by omega) (by omega)
  | succ d ih =>
    intro i j acc hi hj ha
    obtain ⟨j, rfl⟩ : ∃ q, j = q + 1 := ⟨j - 1, by omega⟩
    rw [f_u16_17, decide_eq_true (by omega : (i : Int) < (l.length : Int)), cond_true, if_pos ⟨by omega, by omega⟩, wrapS i (by omega), Int.toNat_natCast, if_pos (by simp only [List.length_singleton]; omega), drop_cons' l i T5.dflt (by omega), kids, ih (i + 1) j acc (by omega) (by omega) (by omega), ih (i + 1) j _ (by omega) (by omega) (by simp; omega)]
    cases (l.getD i T5.dflt).2.1 == (0 : Int)
    · rfl
    · rw [cond_true, cond_true, List.append_assoc]; rfl
theorem parts_l (b : T17.T) (g : GB b) : (partsE (b.2.2.2.2.2.2.2.2.2.1) (b.2.2.2.1)).1.length ≤ 40 := Nat.le_trans (prtL_length _ _) g.bSections
theorem cut_l (b : T17.T) (g : GB b) : (cutE (partsE (b.2.2.2.2.2.2.2.2.2.1) (b.2.2.2.1)).1 (b.2.2.2.2.2.2.2.2.2.2.1) (b.2.2.2.2.1)).1.length ≤ 50000 := by
  have h := cutE_len (partsE (b.2.2.2.2.2.2.2.2.2.1) (b.2.2.2.1)).1 (b.2.2.2.2.2.2.2.2.2.2.1) (b.2.2.2.2.1)
  have h1 := parts_l b g
  have h2 := g.bTurns
  have h3 : ((partsE (b.2.2.2.2.2.2.2.2.2.1) (b.2.2.2.1)).1.length + 1) * (b.2.2.2.2.2.2.2.2.2.2.1.length + 1) ≤ 41 * 41 := Nat.mul_le_mul (by omega) (by omega)
  omega
theorem tail_s (k : Nat) (hk : 60000 ≤ k) (b : T17.T) (g : GB b) (hz : secE (b.2.2.2.2.2.2.2.2.2.1) = 0) (fnd : List Fnd) (hf : fnd.length ≤ 1000) : (
  if ((f_u58 k b.snd.snd.snd.snd.snd.snd.snd.snd.snd.fst (0, b.snd.snd.snd.fst)).isSome = true) then
    bif ((v_u58 k b.snd.snd.snd.snd.snd.snd.snd.snd.snd.fst ((0 : Int), b.snd.snd.snd.fst)).snd == (0 : Int)) then
      if ((f_u56 k (v_u58 k b.snd.snd.snd.snd.snd.snd.snd.snd.snd.fst (0, b.snd.snd.snd.fst)).fst b.snd.snd.snd.snd.snd.snd.snd.snd.snd.snd.fst b.snd.snd.snd.snd.fst).isSome = true) then
        bif ((v_u56 k (v_u58 k b.snd.snd.snd.snd.snd.snd.snd.snd.snd.fst ((0 : Int), b.snd.snd.snd.fst)).fst b.snd.snd.snd.snd.snd.snd.snd.snd.snd.snd.fst b.snd.snd.snd.snd.fst).snd.snd != (0 : Int)) then
          if ((f_u11 k b fnd 2 (-1) (v_u56 k (v_u58 k b.snd.snd.snd.snd.snd.snd.snd.snd.snd.fst (0, b.snd.snd.snd.fst)).fst b.snd.snd.snd.snd.snd.snd.snd.snd.snd.snd.fst b.snd.snd.snd.snd.fst).snd.snd).isSome = true) then
            some (((v_u11 k b fnd 2 (-1) (v_u56 k (v_u58 k b.snd.snd.snd.snd.snd.snd.snd.snd.snd.fst (0, b.snd.snd.snd.fst)).fst b.snd.snd.snd.snd.snd.snd.snd.snd.snd.snd.fst b.snd.snd.snd.snd.fst).snd.snd).fst, (v_u11 k b fnd 2 (-1) (v_u56 k (v_u58 k b.snd.snd.snd.snd.snd.snd.snd.snd.snd.fst (0, b.snd.snd.snd.fst)).fst b.snd.snd.snd.snd.snd.snd.snd.snd.snd.snd.fst b.snd.snd.snd.snd.fst).snd.snd).snd))
          else none
        else
          f_u16_17 k b fnd k ((v_u56 k (v_u58 k b.snd.snd.snd.snd.snd.snd.snd.snd.snd.fst (0, b.snd.snd.snd.fst)).fst b.snd.snd.snd.snd.snd.snd.snd.snd.snd.snd.fst b.snd.snd.snd.snd.fst).fst) b.snd.snd.snd.snd.snd.snd.snd.snd.snd.snd.snd.fst ((↑ (List.length b.snd.snd.snd.snd.snd.snd.snd.snd.snd.snd.snd.fst) : Int)) 0 b fnd ([])
      else none
    else
      bif ((v_u58 k b.snd.snd.snd.snd.snd.snd.snd.snd.snd.fst ((0 : Int), b.snd.snd.snd.fst)).snd != (0 : Int)) then
        if ((f_u11 k b fnd 2 (-1) (v_u58 k b.snd.snd.snd.snd.snd.snd.snd.snd.snd.fst (0, b.snd.snd.snd.fst)).snd).isSome = true) then
          some (((v_u11 k b fnd 2 (-1) (v_u58 k b.snd.snd.snd.snd.snd.snd.snd.snd.snd.fst (0, b.snd.snd.snd.fst)).snd).fst, (v_u11 k b fnd 2 (-1) (v_u58 k b.snd.snd.snd.snd.snd.snd.snd.snd.snd.fst (0, b.snd.snd.snd.fst)).snd).snd))
        else none
      else
        f_u16_17 k b fnd k ([]) b.snd.snd.snd.snd.snd.snd.snd.snd.snd.snd.snd.fst ((↑ (List.length b.snd.snd.snd.snd.snd.snd.snd.snd.snd.snd.snd.fst) : Int)) 0 b fnd ([])
  else none : Option R_u16) = some (b, fnd ++ tailS b) := by
  have hr := g.bRolls
  have h1 := Parts_any k (by omega) hz (b.2.2.2.1)
  have h2 := Parts_anyv k (by omega) hz (b.2.2.2.1)
  have h3 := fun l => reel_Cut_s k (by omega) l (b.2.2.2.2.2.2.2.2.2.2.1) (b.2.2.2.2.1)
  have h4 := fun l => reel_Cut_v k (by omega) l (b.2.2.2.2.2.2.2.2.2.2.1) (b.2.2.2.2.1)
  rw [h1, h2, Option.isSome_some, if_pos rfl, h3, h4, Option.isSome_some, if_pos rfl]
  by_cases hp : (partsE (b.2.2.2.2.2.2.2.2.2.1) (b.2.2.2.1)).2 = 0
  · rw [show ((partsE (b.2.2.2.2.2.2.2.2.2.1) (b.2.2.2.1)).2 == (0 : Int)) = true from beq_iff_eq.2 hp, cond_true]
    by_cases hc : (cutE (partsE (b.2.2.2.2.2.2.2.2.2.1) (b.2.2.2.1)).1 (b.2.2.2.2.2.2.2.2.2.2.1) (b.2.2.2.2.1)).2.2 = 0
    · rw [tailS_g b hp hc, show ((cutE (partsE (b.2.2.2.2.2.2.2.2.2.1) (b.2.2.2.1)).1 (b.2.2.2.2.2.2.2.2.2.2.1) (b.2.2.2.2.1)).2.2 != (0 : Int)) = false by rw [hc]; rfl, cond_false]
      have := web_17 k b b fnd fnd hf (cutE (partsE (b.2.2.2.2.2.2.2.2.2.1) (b.2.2.2.1)).1 (b.2.2.2.2.2.2.2.2.2.2.1) (b.2.2.2.2.1)).1 (cut_l b g) (b.2.2.2.2.2.2.2.2.2.2.2.1) hr (b.2.2.2.2.2.2.2.2.2.2.2.1.length) 0 k [] (by omega) (by omega) (by simp)
      exact this
    · rw [tailS_c b hp hc, bne_iff_ne.2 hc, cond_true, find_s k b fnd _ _ _ (by omega), find_v k b fnd _ _ _ (by omega), Option.isSome_some, if_pos rfl]
  · rw [show ((partsE (b.2.2.2.2.2.2.2.2.2.1) (b.2.2.2.1)).2 == (0 : Int)) = false from beq_eq_false_iff_ne.2 hp, cond_false, bne_iff_ne.2 hp, cond_true, tailS_p b hp, find_s k b fnd _ _ _ (by omega), find_v k b fnd _ _ _ (by omega), Option.isSome_some, if_pos rfl]
theorem web_s (k : Nat) (hk : 60000 ≤ k) (b : T17.T) (g : GB b) (fnd : List Fnd) (hf : fnd.length ≤ 1000) : f_u16 k b fnd = some (b, fnd ++ webS b) := by
  have hs := g.bSections
  unfold f_u16
  rw [reel_Check_s k (by omega), reel_Check_v k (by omega), Option.isSome_some, if_pos rfl]
  by_cases hz : secE (b.2.2.2.2.2.2.2.2.2.1) = 0
  · rw [show (secE (b.2.2.2.2.2.2.2.2.2.1) != (0 : Int)) = false by rw [hz]; rfl, cond_false]
    by_cases h0 : b.2.2.2.2.2.2.2.2.2.1.length = 0
    · have he : endS (b.2.2.2.2.2.2.2.2.2.1) = 0 := by unfold endS; rw [if_pos h0]
      rw [decide_eq_false (by omega : ¬ (b.2.2.2.2.2.2.2.2.2.1.length : Int) > 0), cond_false]
      by_cases hm : (0 : Int) = b.2.2.1
      · rw [show ((0 : Int) != b.2.2.1) = false by rw [← hm]; rfl, cond_false, webS_t b hz (he.trans hm)]
        exact tail_s k hk b g hz fnd hf
      · rw [webS_m b hz (fun e => hm (he.symm.trans e)), he, bne_iff_ne.2 hm, cond_true, find_s k b fnd _ _ _ (by omega), find_v k b fnd _ _ _ (by omega), Option.isSome_some, if_pos rfl]
    · have he : endS (b.2.2.2.2.2.2.2.2.2.1) = (b.2.2.2.2.2.2.2.2.2.1.getD (b.2.2.2.2.2.2.2.2.2.1.length - 1) T2.dflt).2.1 := by unfold endS; rw [if_neg h0]
      have hw : IntKind.i64.wrap ((b.2.2.2.2.2.2.2.2.2.1.length : Int) - 1) = ((b.2.2.2.2.2.2.2.2.2.1.length - 1 : Nat) : Int) := by rw [wrap_id (by omega) (by omega)]; omega
      rw [decide_eq_true (by omega : (b.2.2.2.2.2.2.2.2.2.1.length : Int) > 0), cond_true, hw, if_pos ⟨by omega, by omega⟩, Int.toNat_natCast]
      by_cases hm : (b.2.2.2.2.2.2.2.2.2.1.getD (b.2.2.2.2.2.2.2.2.2.1.length - 1) T2.dflt).2.1 = b.2.2.1
      · rw [show ((b.2.2.2.2.2.2.2.2.2.1.getD (b.2.2.2.2.2.2.2.2.2.1.length - 1) T2.dflt).2.1 != b.2.2.1) = false by rw [hm]; exact bne_self_eq_false _, cond_false, webS_t b hz (he.trans hm)]
        exact tail_s k hk b g hz fnd hf
      · rw [webS_m b hz (fun e => hm (he.symm.trans e)), he, bne_iff_ne.2 hm, cond_true, find_s k b fnd _ _ _ (by omega), find_v k b fnd _ _ _ (by omega), Option.isSome_some, if_pos rfl]
  · rw [webS_z b hz, bne_iff_ne.2 hz, cond_true, find_s k b fnd _ _ _ (by omega), find_v k b fnd _ _ _ (by omega), Option.isSome_some, if_pos rfl]
theorem web_v (k : Nat) (hk : 60000 ≤ k) (b : T17.T) (g : GB b) (fnd : List Fnd) (hf : fnd.length ≤ 1000) : v_u16 k b fnd = (b, fnd ++ webS b) := by
  unfold v_u16; rw [web_s k hk b g fnd hf]; rfl
theorem Web_s (k : Nat) (hk : 60000 ≤ k) (b : T17.T) (g : GB b) : f_u6 k b = some (webS b, 0) := by
  have h1 : f_u22 k b = some (webS b, 0) := by
    unfold f_u22
    have e1 : f_u7 k b [] = some b := rfl
    have e2 : v_u7 k b [] = b := rfl
    obtain ⟨k', rfl⟩ : ∃ q, k = q + 2 := ⟨k - 2, by omega⟩
    rw [full_s _ (by omega) b g, full_v _ (by omega) b g, e1, e2, Option.isSome_some, if_pos rfl, cond_false, Option.isSome_some, if_pos rfl]
    rw [f_u22_10005, if_pos ⟨by omega, by decide⟩, web_s _ hk b g [] (by simp), web_v _ hk b g [] (by simp), Option.isSome_some, if_pos rfl, f_u22_20005]
    rfl
  unfold f_u6
  rw [show v_u22 k b = (webS b, 0) by unfold v_u22; rw [h1]; rfl, h1, Option.isSome_some, if_pos rfl]
theorem Web_v (k : Nat) (hk : 60000 ≤ k) (b : T17.T) (g : GB b) : v_u6 k b = (webS b, 0) := by
  unfold v_u6; rw [Web_s k hk b g]; rfl

/-! ### the reference's Web -/
theorem ref_20 (k : Nat) (b : T17.T) (hr : b.2.2.2.2.2.2.2.2.2.2.2.1.length ≤ 40) (rs : List (Int × Int)) (hrs : rs.length ≤ 50000) : ∀ (d i n j : Nat), i + d = b.2.2.2.2.2.2.2.2.2.2.2.1.length → d < j → n ≤ i → n ≤ rs.length →
    f_u53_20 k j rs (n : Int) (i : Int) b = some (webG (b.2.1) (rs.drop n) (kids (b.2.2.2.2.2.2.2.2.2.2.2.1.drop i)) (n : Int), 0) := by
  intro d
  induction d with
  | zero =>
    intro i n j hi hj hn hn2
    obtain ⟨j, rfl⟩ : ∃ q, j = q + 1 := ⟨j - 1, by omega⟩
    rw [f_u53_20, decide_eq_false (by omega : ¬ (i : Int) < (b.2.2.2.2.2.2.2.2.2.2.2.1.length : Int)), cond_false, List.drop_of_length_le (by omega : b.2.2.2.2.2.2.2.2.2.2.2.1.length ≤ i), kids]
    by_cases h : n < rs.length
    · rw [decide_eq_true (by omega : (n : Int) < (rs.length : Int)), cond_true, drop_cons' rs n T21.dflt h, webG]
    · rw [decide_eq_false (by omega : ¬ (n : Int) < (rs.length : Int)), cond_false, List.drop_of_length_le (by omega), webG]
  | succ d ih =>
    intro i n j hi hj hn hn2
    obtain ⟨j, rfl⟩ : ∃ q, j = q + 1 := ⟨j - 1, by omega⟩
    rw [f_u53_20, decide_eq_true (by omega : (i : Int) < (b.2.2.2.2.2.2.2.2.2.2.2.1.length : Int)), cond_true, if_pos ⟨by omega, by omega⟩, Int.toNat_natCast, Int.toNat_natCast, wrapS i (by omega), wrapS n (by omega), drop_cons' (b.2.2.2.2.2.2.2.2.2.2.2.1) i T5.dflt (by omega), kids]
    cases hx : (b.2.2.2.2.2.2.2.2.2.2.2.1.getD i T5.dflt).2.1 == (0 : Int)
    · rw [cond_false, cond_false]
      exact ih (i + 1) n j (by omega) (by omega) (by omega) hn2
    · rw [cond_true, cond_true]
      by_cases h : n < rs.length
      · rw [decide_eq_false (by omega : ¬ (n : Int) ≥ (rs.length : Int)), cond_false, agrees_s, agrees_v, Option.isSome_some, if_pos ⟨rfl, by omega, by omega, by omega, by omega, rfl⟩, Bool.false_or, ih (i + 1) (n + 1) j (by omega) (by omega) (by omega) (by omega), drop_cons' rs n T21.dflt h, webG]
        cases agrS (b.2.1) (b.2.2.2.2.2.2.2.2.2.2.2.1.getD i T5.dflt).2.2 (rs.getD n T21.dflt) <;> rfl
      · rw [decide_eq_true (by omega : (n : Int) ≥ (rs.length : Int)), cond_true, if_pos rfl, List.drop_of_length_le (by omega : rs.length ≤ n), webG]
theorem tailR_s (k : Nat) (hk : 60000 ≤ k) (b : T17.T) (g : GB b) (hz : secE (b.2.2.2.2.2.2.2.2.2.1) = 0) : (
  if ((f_u48 k b.snd.snd.snd.snd.snd.snd.snd.snd.snd.fst (0, b.snd.snd.snd.fst)).isSome = true) then
    bif ((v_u48 k b.snd.snd.snd.snd.snd.snd.snd.snd.snd.fst ((0 : Int), b.snd.snd.snd.fst)).snd != (0 : Int)) then
      some (([(2, (-1), (v_u48 k b.snd.snd.snd.snd.snd.snd.snd.snd.snd.fst (0, b.snd.snd.snd.fst)).snd)], 0))
    else
      if ((f_u47 k (v_u48 k b.snd.snd.snd.snd.snd.snd.snd.snd.snd.fst (0, b.snd.snd.snd.fst)).fst b.snd.snd.snd.snd.snd.snd.snd.snd.snd.snd.fst b.snd.snd.snd.snd.fst).isSome = true) then
        bif ((v_u47 k (v_u48 k b.snd.snd.snd.snd.snd.snd.snd.snd.snd.fst ((0 : Int), b.snd.snd.snd.fst)).fst b.snd.snd.snd.snd.snd.snd.snd.snd.snd.snd.fst b.snd.snd.snd.snd.fst).snd.snd != (0 : Int)) then
          some (([(2, (-1), (v_u47 k (v_u48 k b.snd.snd.snd.snd.snd.snd.snd.snd.snd.fst (0, b.snd.snd.snd.fst)).fst b.snd.snd.snd.snd.snd.snd.snd.snd.snd.snd.fst b.snd.snd.snd.snd.fst).snd.snd)], 0))
        else
          f_u53_20 k k ((v_u47 k (v_u48 k b.snd.snd.snd.snd.snd.snd.snd.snd.snd.fst (0, b.snd.snd.snd.fst)).fst b.snd.snd.snd.snd.snd.snd.snd.snd.snd.snd.fst b.snd.snd.snd.snd.fst).fst) 0 0 b
      else none
  else none : Option R_u53) = some (tailS b, 0) := by
  have hr := g.bRolls
  have ht := g.bTurns
  have h1 := PartsR_any k (by omega) hz (b.2.2.2.1)
  have h2 := PartsR_anyv k (by omega) hz (b.2.2.2.1)
  have hpl := parts_l b g
  have h3 := ref_Cut_s k (by omega) (partsE (b.2.2.2.2.2.2.2.2.2.1) (b.2.2.2.1)).1 (b.2.2.2.2.2.2.2.2.2.2.1) (b.2.2.2.2.1) (by omega) ht
  have h4 := ref_Cut_v k (by omega) (partsE (b.2.2.2.2.2.2.2.2.2.1) (b.2.2.2.1)).1 (b.2.2.2.2.2.2.2.2.2.2.1) (b.2.2.2.2.1) (by omega) ht
  rw [h1, h2, Option.isSome_some, if_pos rfl, h3, h4, Option.isSome_some, if_pos rfl]
  by_cases hp : (partsE (b.2.2.2.2.2.2.2.2.2.1) (b.2.2.2.1)).2 = 0
  · rw [show ((partsE (b.2.2.2.2.2.2.2.2.2.1) (b.2.2.2.1)).2 != (0 : Int)) = false by rw [hp]; rfl, cond_false]
    by_cases hc : (cutE (partsE (b.2.2.2.2.2.2.2.2.2.1) (b.2.2.2.1)).1 (b.2.2.2.2.2.2.2.2.2.2.1) (b.2.2.2.2.1)).2.2 = 0
    · rw [tailS_g b hp hc, show ((cutE (partsE (b.2.2.2.2.2.2.2.2.2.1) (b.2.2.2.1)).1 (b.2.2.2.2.2.2.2.2.2.2.1) (b.2.2.2.2.1)).2.2 != (0 : Int)) = false by rw [hc]; rfl, cond_false]
      have := ref_20 k b hr (cutE (partsE (b.2.2.2.2.2.2.2.2.2.1) (b.2.2.2.1)).1 (b.2.2.2.2.2.2.2.2.2.2.1) (b.2.2.2.2.1)).1 (cut_l b g) (b.2.2.2.2.2.2.2.2.2.2.2.1.length) 0 0 k (by omega) (by omega) (by omega) (by omega)
      exact this
    · rw [tailS_c b hp hc, bne_iff_ne.2 hc, cond_true]
  · rw [bne_iff_ne.2 hp, cond_true, tailS_p b hp]
theorem WebR_s (k : Nat) (hk : 60000 ≤ k) (b : T17.T) (g : GB b) : f_u53 k b = some (webS b, 0) := by
  have hs := g.bSections
  unfold f_u53
  rw [Full_s k (by omega) b g, Full_v k (by omega) b g, Option.isSome_some, if_pos rfl, bne_self_eq_false, cond_false, ref34_Check_s k (by omega), ref34_Check_v k (by omega), Option.isSome_some, if_pos rfl]
  by_cases hz : secE (b.2.2.2.2.2.2.2.2.2.1) = 0
  · rw [show (secE (b.2.2.2.2.2.2.2.2.2.1) != (0 : Int)) = false by rw [hz]; rfl, cond_false]
    by_cases h0 : b.2.2.2.2.2.2.2.2.2.1.length = 0
    · have he : endS (b.2.2.2.2.2.2.2.2.2.1) = 0 := by unfold endS; rw [if_pos h0]
      rw [decide_eq_false (by omega : ¬ (b.2.2.2.2.2.2.2.2.2.1.length : Int) > 0), cond_false]
      by_cases hm : (0 : Int) = b.2.2.1
      · rw [show ((0 : Int) != b.2.2.1) = false by rw [← hm]; rfl, cond_false, webS_t b hz (he.trans hm)]
        exact tailR_s k hk b g hz
      · rw [webS_m b hz (fun e => hm (he.symm.trans e)), he, bne_iff_ne.2 hm, cond_true]
    · have he : endS (b.2.2.2.2.2.2.2.2.2.1) = (b.2.2.2.2.2.2.2.2.2.1.getD (b.2.2.2.2.2.2.2.2.2.1.length - 1) T2.dflt).2.1 := by unfold endS; rw [if_neg h0]
      have hw : IntKind.i64.wrap ((b.2.2.2.2.2.2.2.2.2.1.length : Int) - 1) = ((b.2.2.2.2.2.2.2.2.2.1.length - 1 : Nat) : Int) := by rw [wrap_id (by omega) (by omega)]; omega
      rw [decide_eq_true (by omega : (b.2.2.2.2.2.2.2.2.2.1.length : Int) > 0), cond_true, hw, if_pos ⟨by omega, by omega⟩, Int.toNat_natCast]
      by_cases hm : (b.2.2.2.2.2.2.2.2.2.1.getD (b.2.2.2.2.2.2.2.2.2.1.length - 1) T2.dflt).2.1 = b.2.2.1
      · rw [show ((b.2.2.2.2.2.2.2.2.2.1.getD (b.2.2.2.2.2.2.2.2.2.1.length - 1) T2.dflt).2.1 != b.2.2.1) = false by rw [hm]; exact bne_self_eq_false _, cond_false, webS_t b hz (he.trans hm)]
        exact tailR_s k hk b g hz
      · rw [webS_m b hz (fun e => hm (he.symm.trans e)), he, bne_iff_ne.2 hm, cond_true]
  · rw [webS_z b hz, bne_iff_ne.2 hz, cond_true]
theorem WebR_v (k : Nat) (hk : 60000 ≤ k) (b : T17.T) (g : GB b) : v_u53 k b = (webS b, 0) := by
  unfold v_u53; rw [WebR_s k hk b g]; rfl
theorem webG_len (w : Int) : ∀ (rs : List (Int × Int)) (cs : List T4.T) (i : Int), (webG w rs cs i).length ≤ 1
  | [], [], _ => by simp [webG]
  | s :: rs, c :: cs, i => by
    unfold webG
    cases agrS w c s
    · simp
    · exact webG_len w rs cs (i + 1)
  | [], _ :: _, _ => by simp [webG]
  | _ :: _, [], _ => by simp [webG]
theorem webS_len (b : T17.T) : (webS b).length ≤ 1 := by
  unfold webS tailS
  split
  · simp
  · split
    · simp
    · split
      · simp
      · split
        · simp
        · exact webG_len _ _ _ _
end Go.AM
namespace Go.AM
open Go Go.Proofs
noncomputable section
abbrev R_u29 : Type := Bool
def res_u29 (r : R_u29) : AV := .r (.v (.bool r))
def bo_u29 (g_0 : Int) (g_1 : Int) (g_2 : List (T5).T) (g_3 : List ((I).T × (I).T)) (id_ : Int) (r : R_u29) : List (Nat × Blk) := [(0, .var 135 [.r (.v (.int .i64 g_0)), .r (.v (.int .i64 g_1)), .r (.ro T5 g_2), .own 1 0]), (0, .map false I I g_3)]
def args_u29 (g_0 : Int) (g_1 : Int) (g_2 : List (T5).T) (g_3 : List ((I).T × (I).T)) (id_ : Int) : List AV := [.ptr 0 0 0, .r (.v (.int .i64 id_))]
def bin_u29 (g_0 : Int) (g_1 : Int) (g_2 : List (T5).T) (g_3 : List ((I).T × (I).T)) (id_ : Int) : List Blk := [.var 135 [.r (.v (.int .i64 g_0)), .r (.v (.int .i64 g_1)), .r (.ro T5 g_2), .own 1 0], .map false I I g_3]
abbrev C_u29 (g_0 : Int) (g_1 : Int) (g_2 : List (T5).T) (g_3 : List ((I).T × (I).T)) (id_ : Int) (r : R_u29) : Prop := CC Tryz.prog 72 (args_u29 g_0 g_1 g_2 g_3 id_) (bin_u29 g_0 g_1 g_2 g_3 id_) (res_u29 r) (bo_u29 g_0 g_1 g_2 g_3 id_ r)
def f_u29 (k : Nat) (g_0 : Int) (g_1 : Int) (g_2 : List (T5).T) (g_3 : List ((I).T × (I).T)) (id_ : Int) : Option R_u29 :=
  some ((mget I id_ g_3).isSome)
def v_u29 (k : Nat) (g_0 : Int) (g_1 : Int) (g_2 : List (T5).T) (g_3 : List ((I).T × (I).T)) (id_ : Int) : R_u29 := (f_u29 k g_0 g_1 g_2 g_3 id_).getD false
def ke_u29 (k : Nat) : Ke := (72, fun xs => match xs with
  | [.ptr _ _ _, _] => some [true, false]
  | _ => none, fun xs bs => match xs, bs with
  | [.ptr 0 0 0, .r (.v (.int .i64 id_))], [.var 135 [.r (.v (.int .i64 g_0)), .r (.v (.int .i64 g_1)), .r (.ro tg_2_ qg_2), .own 1 0], .map false kg_3_ tg_3_ qg_3] => (castL tg_2_ T5 qg_2).bind fun g_2 => (castM kg_3_ tg_3_ I I qg_3).bind fun g_3 => some (.one (res_u29 (v_u29 k g_0 g_1 g_2 g_3 id_), bo_u29 g_0 g_1 g_2 g_3 id_ (v_u29 k g_0 g_1 g_2 g_3 id_)))
  | _, _ => none)
theorem of_u29 (k : Nat) (g_0 : Int) (g_1 : Int) (g_2 : List (T5).T) (g_3 : List ((I).T × (I).T)) (id_ : Int) (r : R_u29) (h : f_u29 k g_0 g_1 g_2 g_3 id_ = some r) : C_u29 g_0 g_1 g_2 g_3 id_ r := by
  refine CC.of (fn := Tryz.f72) (by kernel_rfl) (by kernel_rfl) (by kernel_rfl) (by kernel_rfl) ?_
  unfold f_u29 at h
  exact go (mkK []) [] [] [.autoB [4] true []] (gL h) (by kernel_rfl)
theorem cc_u29 {k : Nat} {g_0 : Int} {g_1 : Int} {g_2 : List (T5).T} {g_3 : List ((I).T × (I).T)} {id_ : Int} (h : (f_u29 k g_0 g_1 g_2 g_3 id_).isSome = true) : C_u29 g_0 g_1 g_2 g_3 id_ (v_u29 k g_0 g_1 g_2 g_3 id_) := ccG (Φ := C_u29 g_0 g_1 g_2 g_3 id_) h (of_u29 k g_0 g_1 g_2 g_3 id_)
abbrev R_u34 : Type := Int
def res_u34 (r : R_u34) : AV := .r (.v (.int .i64 r))
def bo_u34 (m_ : List (T3).T) (r : R_u34) : List (Nat × Blk) := []
def args_u34 (m_ : List (T3).T) : List AV := [.r (.ro T3 m_)]
def bin_u34 (m_ : List (T3).T) : List Blk := []
abbrev C_u34 (m_ : List (T3).T) (r : R_u34) : Prop := CC Tryz.prog 119 (args_u34 m_) (bin_u34 m_) (res_u34 r) (bo_u34 m_ r)
def st_u34_5 (y0 : Int) (y1 : List (T3).T) (y2 : Int) (y3 : Int) : St := ⟨mkS 64 [(3, .r (.v (.int .i64 y0))), (9, .r (.ro T3 y1)), (10, .r (.v (.int .i64 y2))), (11, .r (.v (.int .i64 y3)))], []⟩
def f_u34_5 (k : Nat) : Nat → Int → List (T3).T → Int → Int → Option R_u34
  | 0, _, _, _, _ => none
  | j + 1, y0, y1, y2, y3 =>
  bif (decide (y3 < y2)) then
  if (0 ≤ y3) ∧ (y3 < (↑y1.length : Int)) then
  bif (decide ((y1.getD y3.toNat T3.dflt).2.1 < (1 : Int)) || decide ((y1.getD y3.toNat T3.dflt).2.1 > (17179869184 : Int)) || decide ((y1.getD y3.toNat T3.dflt).1 < (0 : Int)) || decide ((y1.getD y3.toNat T3.dflt).1 ≥ (17179869184 : Int))) then
  some 1
  else
  bif ((y1.getD y3.toNat T3.dflt).2.2 && decide (IntKind.i64.wrap (IntKind.i64.wrap ((y1.getD y3.toNat T3.dflt).1 - (y1.getD y3.toNat T3.dflt).2.1) + (1 : Int)) < (0 : Int)) || (! (y1.getD y3.toNat T3.dflt).2.2) && decide (IntKind.i64.wrap ((y1.getD y3.toNat T3.dflt).1 + (y1.getD y3.toNat T3.dflt).2.1) > (17179869184 : Int))) then
  some 1
  else
  f_u34_5 k j ((IntKind.i64.wrap (y0 + (y1.getD y3.toNat T3.dflt).2.1))) y1 y2 ((IntKind.i64.wrap (y3 + 1)))
  else none
  else
  bif (decide (y0 > (17179869184 : Int))) then
  some 21
  else
  some 0
def f_u34 (k : Nat) (m_ : List (T3).T) : Option R_u34 :=
  bif (decide ((↑m_.length : Int) > (256 : Int))) then
  some 8
  else
  f_u34_5 k k 0 m_ ((↑m_.length : Int)) 0
def v_u34 (k : Nat) (m_ : List (T3).T) : R_u34 := (f_u34 k m_).getD 0
def ke_u34 (k : Nat) : Ke := (119, fun xs => match xs with
  | [_] => some [false]
  | _ => none, fun xs bs => match xs, bs with
  | [.r (.ro tm__ qm_)], [] => (castL tm__ T3 qm_).bind fun m_ => some (.one (res_u34 (v_u34 k m_), bo_u34 m_ (v_u34 k m_)))
  | _, _ => none)
def cs_u34 : List (Nat × List Cmd) := [(5, [.autoB [3, 9, 10, 11] false []])]
abbrev E_u34 (m_ : List (T3).T) (todo : List Item) (st : St) (o : Option R_u34) : Prop := ∀ r, o = some r → Ev Tryz.prog Tryz.f119 0 todo st (res_u34 r) (bo_u34 m_ r)
theorem ev_u34 (k : Nat) (m_ : List (T3).T) : ∀ j, (∀ (y0 : Int) (y1 : List (T3).T) (y2 : Int) (y3 : Int), E_u34 m_ (placeAt Tryz.f119 5) (st_u34_5 y0 y1 y2 y3) (f_u34_5 k j y0 y1 y2 y3))
  | 0 => fun _ _ _ _ _ h => (nomatch h)
  | j + 1 => by
    have ih := @ev_u34 k m_ j
    · intro y0 y1 y2 y3 r h
      rw [f_u34_5] at h
      exact go (mkK []) [] cs_u34 [.autoB [2] true []] (gT h (fun c h => gN2 h fun h => gT h (fun c h => gL h) fun c h => gT h (fun c h => gL h) fun c h => gC h 5 (ih _ _ _ _ _)) fun c h => gT h (fun c h => gL h) fun c h => gL h) (by kernel_rfl)
theorem of_u34 (k : Nat) (m_ : List (T3).T) (r : R_u34) (h : f_u34 k m_ = some r) : C_u34 m_ r := by
  refine CC.of (fn := Tryz.f119) (by kernel_rfl) (by kernel_rfl) (by kernel_rfl) (by kernel_rfl) ?_
  unfold f_u34 at h
  exact go (mkK []) [] cs_u34 [.autoB [2] true []] (gT h (fun c h => gL h) fun c h => gC h 5 ((ev_u34 k m_ k) _ _ _ _ _)) (by kernel_rfl)
theorem cc_u34 {k : Nat} {m_ : List (T3).T} (h : (f_u34 k m_).isSome = true) : C_u34 m_ (v_u34 k m_) := ccG (Φ := C_u34 m_) h (of_u34 k m_)
abbrev R_u40 : Type := Int
def res_u40 (r : R_u40) : AV := .r (.v (.int .i64 r))
def bo_u40 (m_ : List (T3).T) (r : R_u40) : List (Nat × Blk) := []
def args_u40 (m_ : List (T3).T) : List AV := [.r (.ro T3 m_)]
def bin_u40 (m_ : List (T3).T) : List Blk := []
abbrev C_u40 (m_ : List (T3).T) (r : R_u40) : Prop := CC Tryz.prog 171 (args_u40 m_) (bin_u40 m_) (res_u40 r) (bo_u40 m_ r)
def st_u40_3 (y0 : Int) (y1 : List (T3).T) (y2 : Int) (y3 : Int) : St := ⟨mkS 18 [(3, .r (.v (.int .i64 y0))), (6, .r (.ro T3 y1)), (7, .r (.v (.int .i64 y2))), (8, .r (.v (.int .i64 y3)))], []⟩
def f_u40_3 (k : Nat) : Nat → Int → List (T3).T → Int → Int → Option R_u40
  | 0, _, _, _, _ => none
  | j + 1, y0, y1, y2, y3 =>
  bif (decide (y3 < y2)) then
  if (0 ≤ y3) ∧ (y3 < (↑y1.length : Int)) then
  f_u40_3 k j ((IntKind.i64.wrap (y0 + (y1.getD y3.toNat T3.dflt).2.1))) y1 y2 ((IntKind.i64.wrap (y3 + 1)))
  else none
  else
  some y0
def f_u40 (k : Nat) (m_ : List (T3).T) : Option R_u40 :=
  f_u40_3 k k 0 m_ ((↑m_.length : Int)) 0
def v_u40 (k : Nat) (m_ : List (T3).T) : R_u40 := (f_u40 k m_).getD 0
def ke_u40 (k : Nat) : Ke := (171, fun xs => match xs with
  | [_] => some [false]
  | _ => none, fun xs bs => match xs, bs with
  | [.r (.ro tm__ qm_)], [] => (castL tm__ T3 qm_).bind fun m_ => some (.one (res_u40 (v_u40 k m_), bo_u40 m_ (v_u40 k m_)))
  | _, _ => none)
def cs_u40 : List (Nat × List Cmd) := [(3, [.autoB [3, 6, 7, 8] false []])]
abbrev E_u40 (m_ : List (T3).T) (todo : List Item) (st : St) (o : Option R_u40) : Prop := ∀ r, o = some r → Ev Tryz.prog Tryz.f171 0 todo st (res_u40 r) (bo_u40 m_ r)
theorem ev_u40 (k : Nat) (m_ : List (T3).T) : ∀ j, (∀ (y0 : Int) (y1 : List (T3).T) (y2 : Int) (y3 : Int), E_u40 m_ (placeAt Tryz.f171 3) (st_u40_3 y0 y1 y2 y3) (f_u40_3 k j y0 y1 y2 y3))
  | 0 => fun _ _ _ _ _ h => (nomatch h)
  | j + 1 => by
    have ih := @ev_u40 k m_ j
    · intro y0 y1 y2 y3 r h
      rw [f_u40_3] at h
      exact go (mkK []) [] cs_u40 [.autoB [2] true []] (gT h (fun c h => gN2 h fun h => gC h 3 (ih _ _ _ _ _)) fun c h => gL h) (by kernel_rfl)
theorem of_u40 (k : Nat) (m_ : List (T3).T) (r : R_u40) (h : f_u40 k m_ = some r) : C_u40 m_ r := by
  refine CC.of (fn := Tryz.f171) (by kernel_rfl) (by kernel_rfl) (by kernel_rfl) (by kernel_rfl) ?_
  unfold f_u40 at h
  exact go (mkK []) [] cs_u40 [.autoB [2] true []] (gC h 3 ((ev_u40 k m_ k) _ _ _ _ _)) (by kernel_rfl)
theorem cc_u40 {k : Nat} {m_ : List (T3).T} (h : (f_u40 k m_).isSome = true) : C_u40 m_ (v_u40 k m_) := ccG (Φ := C_u40 m_) h (of_u40 k m_)
abbrev R_u36 : Type := Int × Int
def res_u36 (r : R_u36) : AV := .tup [.r (.v (.int .i64 r.1)), .r (.v (.int .i64 r.2))]
def bo_u36 (m_ : List (T3).T) (r : R_u36) : List (Nat × Blk) := []
def args_u36 (m_ : List (T3).T) : List AV := [.r (.ro T3 m_)]
def bin_u36 (m_ : List (T3).T) : List Blk := []
abbrev C_u36 (m_ : List (T3).T) (r : R_u36) : Prop := CC Tryz.prog 122 (args_u36 m_) (bin_u36 m_) (res_u36 r) (bo_u36 m_ r)
def f_u36 (k : Nat) (m_ : List (T3).T) : Option R_u36 :=
  if ((f_u34 k m_).isSome = true) then
  bif (v_u34 k m_ != (0 : Int)) then
  some ((0, v_u34 k m_))
  else
  if ((f_u40 k m_).isSome = true) then
  some ((v_u40 k m_, 0))
  else none
  else none
def v_u36 (k : Nat) (m_ : List (T3).T) : R_u36 := (f_u36 k m_).getD (0, 0)
def ke_u36 (k : Nat) : Ke := (122, fun xs => match xs with
  | [_] => some [false]
  | _ => none, fun xs bs => match xs, bs with
  | [.r (.ro tm__ qm_)], [] => (castL tm__ T3 qm_).bind fun m_ => some (.one (res_u36 (v_u36 k m_), bo_u36 m_ (v_u36 k m_)))
  | _, _ => none)
theorem of_u36 (k : Nat) (m_ : List (T3).T) (r : R_u36) (h : f_u36 k m_ = some r) : C_u36 m_ r := by
  refine CC.of (fn := Tryz.f122) (by kernel_rfl) (by kernel_rfl) (by kernel_rfl) (by kernel_rfl) ?_
  unfold f_u36 at h
  exact go (mkK [ke_u34 k, ke_u40 k]) [] [] [.autoB [2, 3] true []] (gN1 h (fun q => cc_u34 q) fun h => gT h (fun c h => gL h) fun c h => gN1 h (fun q => cc_u40 q) fun h => gL h) (by kernel_rfl)
theorem cc_u36 {k : Nat} {m_ : List (T3).T} (h : (f_u36 k m_).isSome = true) : C_u36 m_ (v_u36 k m_) := ccG (Φ := C_u36 m_) h (of_u36 k m_)

end
end Go.AM
