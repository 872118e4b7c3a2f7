/- Contracts of the functions that the law reaches, and the plain law. -/
import Derived.Test.YtlakpahbdecdpaaGreatDoorLibb
import Derived.Test.YtlakpahbdecdpaaGreatDoorProg
import Derived.Laws.RangeAny
import Derived.Lib.IndexAny
import Derived.Shelf.Strings.IndexAnyAll
import Derived.Shelf.Small.Utf8
import Derived.Shelf.SlicesE.Clone
import Derived.Shelf.SlSortCmp.WholeK
import Derived.Shelf.SlSortCmp.NoneTotal
import Derived.Shelf.Sort.Plain
import Derived.Shelf.Slices.In.SortNone
import Derived.Shelf.Spec.SlicesGrow
import Derived.Shelf.SlGeneric
import Derived.Shelf.Small.Bits
import Derived.Ground.NamesProg
import Derived.Ground.Names2Prog
import Derived.Ground.Names8Prog
import Derived.Ground.SlgnProg
import Derived.Ground.SlsfProg
set_option linter.unusedVariables false
set_option linter.unusedSimpArgs false
set_option linter.unusedSectionVars false
namespace Go.AM
open Go

theorem take_snoc {α : Type} (l : List α) (i : Nat) (d : α) (h : i < l.length) : l.take (i + 1) = l.take i ++ [l.getD i d] := by
  rw [List.take_add_one]; simp [h]

/-! ### sets of integers as lists of spans -/
abbrev Sp := Int × Int

/-- x is in one of the spans -/
def has : List Sp → Int → Prop
  | [], _ => False
  | s :: t, x => (s.1 ≤ x ∧ x < s.2) ∨ has t x

theorem has_iff (l : List Sp) (x : Int) : has l x ↔ ∃ s ∈ l, s.1 ≤ x ∧ x < s.2 := by
  induction l with
  | nil => simp [has]
  | cons s t ih => simp [has, ih]

theorem has_perm {a b : List Sp} (h : a.Perm b) (x : Int) : has a x ↔ has b x := by
  rw [has_iff, has_iff]
  exact ⟨fun ⟨s, hs, h2⟩ => ⟨s, h.mem_iff.1 hs, h2⟩, fun ⟨s, hs, h2⟩ => ⟨s, h.mem_iff.2 hs, h2⟩⟩

/-- spans that have integers, in order, apart, all behind b -/
def Nr : Int → List Sp → Prop
  | _, [] => True
  | b, s :: t => b < s.1 ∧ s.1 < s.2 ∧ Nr s.2 t

theorem Nr.weaken {a b : Int} (h : a ≤ b) : ∀ {l : List Sp}, Nr b l → Nr a l
  | [], _ => trivial
  | _ :: _, ⟨h1, h2, h3⟩ => ⟨by omega, h2, h3⟩

theorem Nr.low : ∀ {b : Int} {l : List Sp}, Nr b l → ∀ x, has l x → b < x
  | _, [], _, x, hx => hx.elim
  | b, s :: t, ⟨h1, h2, h3⟩, x, hx => by
    rcases hx with ⟨h, _⟩ | hx
    · omega
    · have := Nr.low h3 x hx; omega

theorem Nr.uniq : ∀ {b : Int} {l m : List Sp}, Nr b l → Nr b m → (∀ x, has l x ↔ has m x) → l = m
  | _, [], [], _, _, _ => rfl
  | b, [], s :: t, _, ⟨h1, h2, _⟩, h => ((h s.1).2 (.inl ⟨by omega, h2⟩)).elim
  | b, s :: t, [], ⟨h1, h2, _⟩, _, h => ((h s.1).1 (.inl ⟨by omega, h2⟩)).elim
  | b, s :: t, u :: v, ⟨h1, h2, h3⟩, ⟨k1, k2, k3⟩, h => by
    have e1 : s.1 = u.1 := by
      have a1 := (h s.1).1 (.inl ⟨by omega, h2⟩)
      have a2 := (h u.1).2 (.inl ⟨by omega, k2⟩)
      rcases a1 with a1 | a1
      · rcases a2 with a2 | a2
        · omega
        · have := Nr.low h3 _ a2; omega
      · have := Nr.low k3 _ a1
        rcases a2 with a2 | a2
        · omega
        · have := Nr.low h3 _ a2; omega
    have e2 : s.2 = u.2 := by
      rcases Int.lt_trichotomy s.2 u.2 with hlt | heq | hgt
      · have a1 := (h s.2).2 (.inl ⟨by omega, hlt⟩)
        rcases a1 with a1 | a1
        · omega
        · have := Nr.low h3 _ a1; omega
      · exact heq
      · have a1 := (h u.2).1 (.inl ⟨by omega, hgt⟩)
        rcases a1 with a1 | a1
        · omega
        · have := Nr.low k3 _ a1; omega
    have e3 : s = u := Prod.ext e1 e2
    subst e3
    congr 1
    refine Nr.uniq h3 k3 fun x => ?_
    constructor
    · intro hx
      have := Nr.low h3 _ hx
      rcases (h x).1 (.inr hx) with a | a
      · omega
      · exact a
    · intro hx
      have := Nr.low k3 _ hx
      rcases (h x).2 (.inr hx) with a | a
      · omega
      · exact a

/-- the total of a list of spans -/
def tot : List Sp → Int
  | [] => 0
  | s :: t => (s.2 - s.1) + tot t

/-- joining spans that come in order of their beginnings -/
def jn : Sp → List Sp → List Sp
  | c, [] => [c]
  | c, s :: t => if s.1 ≥ s.2 then jn c t else if s.1 ≤ c.2 then jn (c.1, if s.2 > c.2 then s.2 else c.2) t else c :: jn s t
def jn0 : List Sp → List Sp
  | [] => []
  | s :: t => if s.1 ≥ s.2 then jn0 t else jn s t

def Asc : Int → List Sp → Prop
  | _, [] => True
  | b, s :: t => b ≤ s.1 ∧ Asc s.1 t
theorem Asc.weaken {a b : Int} (h : a ≤ b) : ∀ {l : List Sp}, Asc b l → Asc a l
  | [], _ => trivial
  | _ :: _, ⟨h1, h3⟩ => ⟨by omega, h3⟩

theorem jn_nr : ∀ (l : List Sp) (c : Sp) (b : Int), b < c.1 → c.1 < c.2 → Asc c.1 l → Nr b (jn c l)
  | [], c, b, h1, h2, _ => ⟨h1, h2, trivial⟩
  | s :: t, c, b, h1, h2, ⟨h3, h4⟩ => by
    unfold jn
    by_cases q : s.1 ≥ s.2
    · rw [if_pos q]; exact jn_nr t c b h1 h2 (h4.weaken h3)
    · rw [if_neg q]
      by_cases q2 : s.1 ≤ c.2
      · rw [if_pos q2]
        refine jn_nr t _ b h1 ?_ (h4.weaken h3)
        show c.1 < if s.2 > c.2 then s.2 else c.2
        split <;> omega
      · rw [if_neg q2]
        exact ⟨h1, h2, jn_nr t s c.2 (by omega) (by omega) h4⟩
theorem jn_has : ∀ (l : List Sp) (c : Sp) (x : Int), c.1 < c.2 → Asc c.1 l → (has (jn c l) x ↔ (c.1 ≤ x ∧ x < c.2) ∨ has l x)
  | [], c, x, _, _ => by simp [jn, has]
  | s :: t, c, x, h2, ⟨h3, h4⟩ => by
    unfold jn
    by_cases q : s.1 ≥ s.2
    · rw [if_pos q, jn_has t c x h2 (h4.weaken h3)]
      simp only [has]
      constructor
      · rintro (h | h)
        · exact .inl h
        · exact .inr (.inr h)
      · rintro (h | h | h)
        · exact .inl h
        · omega
        · exact .inr h
    · rw [if_neg q]
      by_cases q2 : s.1 ≤ c.2
      · rw [if_pos q2, jn_has t (c.1, if s.2 > c.2 then s.2 else c.2) x (by show c.1 < if s.2 > c.2 then s.2 else c.2; split <;> omega) (h4.weaken h3)]
        simp only [has]
        constructor
        · rintro (h | h)
          · by_cases q3 : x < c.2
            · exact .inl ⟨h.1, q3⟩
            · refine .inr (.inl ⟨by omega, ?_⟩)
              have := h.2
              split at this <;> omega
          · exact .inr (.inr h)
        · rintro (h | h | h)
          · exact .inl ⟨h.1, by split <;> omega⟩
          · exact .inl ⟨by omega, by split <;> omega⟩
          · exact .inr h
      · rw [if_neg q2]
        simp only [has, jn_has t s x (by omega) h4]
theorem jn0_nr : ∀ (l : List Sp) (b : Int), Asc (b + 1) l → Nr b (jn0 l)
  | [], b, _ => trivial
  | s :: t, b, ⟨h3, h4⟩ => by
    unfold jn0
    by_cases q : s.1 ≥ s.2
    · rw [if_pos q]; exact jn0_nr t b (h4.weaken h3)
    · rw [if_neg q]; exact jn_nr t s b (by omega) (by omega) h4
theorem jn0_has : ∀ (l : List Sp) (b x : Int), Asc b l → (has (jn0 l) x ↔ has l x)
  | [], b, x, _ => Iff.rfl
  | s :: t, b, x, ⟨h3, h4⟩ => by
    unfold jn0
    by_cases q : s.1 ≥ s.2
    · rw [if_pos q, jn0_has t _ x h4]
      simp only [has]
      exact ⟨.inr, fun h => h.elim (fun h => by omega) id⟩
    · rw [if_neg q, jn_has t s x (by omega) h4]; rfl

theorem jn_len : ∀ (l : List Sp) (c : Sp), (jn c l).length ≤ l.length + 1
  | [], c => by simp [jn]
  | s :: t, c => by
    unfold jn
    split
    · have := jn_len t c; simp; omega
    · split
      · have := jn_len t (c.1, if s.2 > c.2 then s.2 else c.2); simp at this ⊢; omega
      · have := jn_len t s; simp; omega
theorem jn0_len : ∀ (l : List Sp), (jn0 l).length ≤ l.length
  | [] => Nat.le_refl _
  | s :: t => by
    unfold jn0
    split
    · have := jn0_len t; simp; omega
    · have := jn_len t s; simpa using this

/-- spans within bounds -/
def In (a b : Int) : List Sp → Prop
  | [] => True
  | s :: t => (a ≤ s.1 ∧ s.1 ≤ s.2 ∧ s.2 ≤ b) ∧ In a b t
theorem In.mem {a b : Int} : ∀ {l : List Sp}, In a b l → ∀ s ∈ l, a ≤ s.1 ∧ s.1 ≤ s.2 ∧ s.2 ≤ b
  | [], _, s, hs => by simp at hs
  | u :: t, ⟨h1, h2⟩, s, hs => by
    rcases List.mem_cons.1 hs with rfl | hs
    · exact h1
    · exact In.mem h2 s hs
theorem In.of {a b : Int} : ∀ {l : List Sp}, (∀ s ∈ l, a ≤ s.1 ∧ s.1 ≤ s.2 ∧ s.2 ≤ b) → In a b l
  | [], _ => trivial
  | u :: t, h => ⟨h u (by simp), In.of fun s hs => h s (by simp [hs])⟩
theorem jn_in {a b : Int} : ∀ (l : List Sp) (c : Sp), In a b l → (a ≤ c.1 ∧ c.1 ≤ c.2 ∧ c.2 ≤ b) → In a b (jn c l)
  | [], c, _, hc => ⟨hc, trivial⟩
  | s :: t, c, ⟨h1, h2⟩, hc => by
    unfold jn
    split
    · exact jn_in t c h2 hc
    · split
      · refine jn_in t _ h2 ⟨hc.1, ?_, ?_⟩
        · show c.1 ≤ if s.2 > c.2 then s.2 else c.2
          split <;> omega
        · show (if s.2 > c.2 then s.2 else c.2) ≤ b
          split <;> omega
      · exact ⟨hc, jn_in t s h2 h1⟩
theorem jn0_in {a b : Int} : ∀ (l : List Sp), In a b l → In a b (jn0 l)
  | [], h => h
  | s :: t, ⟨h1, h2⟩ => by
    unfold jn0
    split
    · exact jn0_in t h2
    · exact jn_in t s h2 h1
end Go.AM
namespace Go.AM
open Go

end Go.AM
namespace Go.AM
open Go Go.Proofs
noncomputable section
abbrev I : RTy := .int .i64
abbrev t7 : RTy := (RTy.pair I (RTy.pair I (RTy.pair RTy.bool (RTy.int .u8))))
abbrev t8 : RTy := (RTy.pair I (RTy.pair I (RTy.pair RTy.bool (RTy.int .u8))))
abbrev t13 : RTy := (RTy.pair RTy.str (RTy.int .u64))
abbrev t14 : RTy := (RTy.pair RTy.str (RTy.int .u64))
abbrev T0 : RTy := (RTy.pair RTy.str (RTy.pair I (RTy.pair I (RTy.pair I (RTy.pair I (RTy.pair I (RTy.pair (RTy.list I) I)))))))
abbrev T1 : RTy := (RTy.pair I (RTy.list I))
abbrev T2 : RTy := (RTy.pair I (RTy.pair I (RTy.pair I (RTy.pair I I))))
abbrev T3 : RTy := (RTy.pair I (RTy.pair I RTy.bool))
abbrev T4 : RTy := (RTy.pair I (RTy.pair I (RTy.pair RTy.bool (RTy.list T3))))
abbrev T5 : RTy := (RTy.pair I (RTy.pair I T4))
abbrev T6 : RTy := (RTy.pair I (RTy.pair I (RTy.pair I I)))
abbrev T7 : RTy := (RTy.pair T6 (RTy.pair I I))
abbrev T8 : RTy := (RTy.pair I (RTy.pair I (RTy.pair I (RTy.pair I (RTy.pair I (RTy.pair I (RTy.pair I (RTy.pair I (RTy.pair I (RTy.pair I (RTy.pair I I)))))))))))
abbrev T9 : RTy := (RTy.pair T8 (RTy.pair (RTy.list I) (RTy.pair (RTy.list I) RTy.bool)))
abbrev T10 : RTy := (RTy.pair I (RTy.pair I I))
abbrev T11 : RTy := (RTy.pair I (RTy.pair I (RTy.list I)))
abbrev T12 : RTy := (RTy.pair I (RTy.pair I (RTy.pair I (RTy.pair I (RTy.pair I I)))))
abbrev T13 : RTy := (RTy.pair I (RTy.pair I (RTy.pair I I)))
abbrev T14 : RTy := (RTy.pair I (RTy.pair I (RTy.pair I I)))
abbrev T15 : RTy := (RTy.pair I I)
abbrev T16 : RTy := (RTy.pair I (RTy.pair I (RTy.list T15)))
abbrev t35 : RTy := (RTy.pair I (RTy.pair I (RTy.pair I (RTy.pair I (RTy.pair I (RTy.pair I (RTy.pair I (RTy.pair (RTy.list T0) (RTy.pair (RTy.list T1) (RTy.pair (RTy.list T2) (RTy.pair (RTy.list I) (RTy.pair (RTy.list T5) (RTy.pair (RTy.list I) (RTy.pair (RTy.list I) (RTy.pair (RTy.list T7) (RTy.pair (RTy.list T9) (RTy.pair (RTy.list T10) (RTy.pair (RTy.list T11) (RTy.pair (RTy.list T12) (RTy.pair (RTy.list T13) (RTy.pair (RTy.list T14) (RTy.list T16))))))))))))))))))))))
abbrev T17 : RTy := (RTy.pair I (RTy.pair I (RTy.pair I (RTy.pair I (RTy.pair I (RTy.pair I (RTy.pair I (RTy.pair (RTy.list T0) (RTy.pair (RTy.list T1) (RTy.pair (RTy.list T2) (RTy.pair (RTy.list I) (RTy.pair (RTy.list T5) (RTy.pair (RTy.list I) (RTy.pair (RTy.list I) (RTy.pair (RTy.list T7) (RTy.pair (RTy.list T9) (RTy.pair (RTy.list T10) (RTy.pair (RTy.list T11) (RTy.pair (RTy.list T12) (RTy.pair (RTy.list T13) (RTy.pair (RTy.list T14) (RTy.list T16))))))))))))))))))))))
abbrev t41 : RTy := (RTy.pair I (RTy.pair I (RTy.pair I I)))
abbrev t44 : RTy := (RTy.pair I (RTy.pair I (RTy.pair RTy.bool (RTy.list T3))))
abbrev t46 : RTy := (RTy.pair I (RTy.pair I T4))
abbrev t48 : RTy := (RTy.pair I (RTy.pair I RTy.bool))
abbrev T18 : RTy := (RTy.pair I (RTy.pair I I))
abbrev t53 : RTy := (RTy.pair I (RTy.pair I I))
abbrev t60 : RTy := (RTy.pair I (RTy.pair I (RTy.pair I (RTy.pair I (RTy.pair I I)))))
abbrev t62 : RTy := (RTy.pair I (RTy.pair I (RTy.pair I I)))
abbrev t66 : RTy := (RTy.pair I I)
abbrev T19 : RTy := (RTy.pair I I)
abbrev t68 : RTy := (RTy.pair I (RTy.pair I I))
abbrev T20 : RTy := (RTy.pair I (RTy.pair I I))
abbrev t71 : RTy := (RTy.pair I (RTy.pair I (RTy.pair I (RTy.pair I (RTy.pair I (RTy.pair I (RTy.pair I (RTy.pair I (RTy.pair I (RTy.pair I (RTy.pair I I)))))))))))
abbrev t73 : RTy := (RTy.pair T8 (RTy.pair (RTy.list I) (RTy.pair (RTy.list I) RTy.bool)))
abbrev t75 : RTy := (RTy.pair I (RTy.pair I (RTy.list I)))
abbrev t86 : RTy := (RTy.pair I (RTy.pair I (RTy.pair I (RTy.pair I I))))
abbrev t90 : RTy := (RTy.pair I I)
abbrev T21 : RTy := (RTy.pair I I)
abbrev t102 : RTy := (RTy.pair I (RTy.pair RTy.bool (RTy.pair I (RTy.pair I (RTy.pair I I)))))
abbrev T22 : RTy := (RTy.pair I (RTy.pair RTy.bool (RTy.pair I (RTy.pair I (RTy.pair I I)))))
abbrev T23 : RTy := (RTy.pair I I)
abbrev t107 : RTy := (RTy.pair (RTy.list T5) (RTy.pair T23 (RTy.pair (RTy.list T2) (RTy.pair (RTy.list T7) (RTy.pair (RTy.list T0) I)))))
abbrev T24 : RTy := (RTy.pair (RTy.list T5) (RTy.pair T23 (RTy.pair (RTy.list T2) (RTy.pair (RTy.list T7) (RTy.pair (RTy.list T0) I)))))
abbrev t116 : RTy := (RTy.pair I (RTy.pair I (RTy.list T15)))
abbrev t119 : RTy := (RTy.pair I I)
abbrev t124 : RTy := (RTy.pair I (RTy.pair I (RTy.pair I I)))
abbrev t126 : RTy := (RTy.pair T6 (RTy.pair I I))
abbrev t129 : RTy := RTy.fn
abbrev T25 : RTy := RTy.fn
abbrev t139 : RTy := (RTy.pair T17 (RTy.list T18))
abbrev T26 : RTy := (RTy.pair T17 (RTy.list T18))
abbrev t162 : RTy := (RTy.pair RTy.str (RTy.pair I (RTy.pair I (RTy.pair I (RTy.pair I (RTy.pair I (RTy.pair (RTy.list I) I)))))))
abbrev t172 : RTy := (RTy.pair I (RTy.pair I (RTy.pair I (RTy.pair I (RTy.pair I I)))))
abbrev T27 : RTy := (RTy.pair I (RTy.pair I (RTy.pair I (RTy.pair I (RTy.pair I I)))))
abbrev t200 : RTy := (RTy.pair (RTy.list T5) (RTy.pair T19 (RTy.pair (RTy.list T2) (RTy.pair (RTy.list T7) (RTy.pair (RTy.list T0) I)))))
abbrev T28 : RTy := (RTy.pair (RTy.list T5) (RTy.pair T19 (RTy.pair (RTy.list T2) (RTy.pair (RTy.list T7) (RTy.pair (RTy.list T0) I)))))
abbrev t209 : RTy := (RTy.pair I (RTy.pair I I))
abbrev T29 : RTy := (RTy.pair I (RTy.pair I (RTy.pair I (RTy.pair I (RTy.pair I I)))))
abbrev t256 : RTy := (RTy.pair (RTy.int .u64) (RTy.int .u64))
abbrev T30 : RTy := (RTy.pair (RTy.int .u64) (RTy.int .u64))
abbrev t261 : RTy := (RTy.pair (RTy.int .u8) (RTy.pair (RTy.int .u8) (RTy.pair (RTy.int .u8) (RTy.pair (RTy.int .u8) (RTy.pair (RTy.int .u8) (RTy.pair (RTy.int .u8) (RTy.pair (RTy.int .u8) (RTy.pair (RTy.int .u8) (RTy.pair (RTy.int .u8) (RTy.pair (RTy.int .u8) (RTy.pair (RTy.int .u8) (RTy.pair (RTy.int .u8) (RTy.pair (RTy.int .u8) (RTy.pair (RTy.int .u8) (RTy.pair (RTy.int .u8) (RTy.pair (RTy.int .u8) (RTy.pair (RTy.int .u8) (RTy.pair (RTy.int .u8) (RTy.pair (RTy.int .u8) (RTy.pair (RTy.int .u8) (RTy.pair (RTy.int .u8) (RTy.pair (RTy.int .u8) (RTy.pair (RTy.int .u8) (RTy.int .u8))))))))))))))))))))))))
abbrev t283 : RTy := (RTy.pair (RTy.int .u64) (RTy.pair (RTy.int .u64) (RTy.pair (RTy.int .u64) (RTy.pair (RTy.int .u64) (RTy.pair (RTy.int .u64) (RTy.pair (RTy.int .u64) (RTy.pair (RTy.int .u64) (RTy.pair (RTy.int .u64) (RTy.pair (RTy.int .u64) (RTy.pair (RTy.int .u64) (RTy.pair (RTy.int .u64) (RTy.pair (RTy.int .u64) (RTy.pair (RTy.int .u64) (RTy.pair (RTy.int .u64) (RTy.pair (RTy.int .u64) (RTy.pair (RTy.int .u64) (RTy.pair (RTy.int .u64) (RTy.pair (RTy.int .u64) (RTy.pair (RTy.int .u64) (RTy.int .u64))))))))))))))))))))
abbrev t286 : RTy := (RTy.list T3)
abbrev T31 : RTy := (RTy.list T3)
abbrev t302 : RTy := (RTy.pair T22 T8)
abbrev T32 : RTy := (RTy.pair T22 T8)
abbrev t320 : RTy := (RTy.pair (RTy.int .u8) (RTy.pair (RTy.int .u8) (RTy.pair (RTy.int .u8) (RTy.pair (RTy.int .u8) (RTy.pair (RTy.int .u8) (RTy.pair (RTy.int .u8) (RTy.pair (RTy.int .u8) (RTy.pair (RTy.int .u8) (RTy.pair (RTy.int .u8) (RTy.pair (RTy.int .u8) (RTy.pair (RTy.int .u8) (RTy.pair (RTy.int .u8) (RTy.pair (RTy.int .u8) (RTy.pair (RTy.int .u8) (RTy.pair (RTy.int .u8) (RTy.pair (RTy.int .u8) (RTy.pair (RTy.int .u8) (RTy.pair (RTy.int .u8) (RTy.pair (RTy.int .u8) (RTy.pair (RTy.int .u8) (RTy.pair (RTy.int .u8) (RTy.pair (RTy.int .u8) (RTy.pair (RTy.int .u8) (RTy.pair (RTy.int .u8) (RTy.pair (RTy.int .u8) (RTy.pair (RTy.int .u8) (RTy.pair (RTy.int .u8) (RTy.pair (RTy.int .u8) (RTy.pair (RTy.int .u8) (RTy.pair (RTy.int .u8) (RTy.pair (RTy.int .u8) (RTy.int .u8))))))))))))))))))))))))))))))))
abbrev t321 : RTy := (RTy.pair (RTy.int .u8) (RTy.pair (RTy.int .u8) (RTy.pair (RTy.int .u8) (RTy.pair (RTy.int .u8) (RTy.pair (RTy.int .u8) (RTy.pair (RTy.int .u8) (RTy.pair (RTy.int .u8) (RTy.pair (RTy.int .u8) (RTy.pair (RTy.int .u8) (RTy.pair (RTy.int .u8) (RTy.pair (RTy.int .u8) (RTy.pair (RTy.int .u8) (RTy.pair (RTy.int .u8) (RTy.pair (RTy.int .u8) (RTy.pair (RTy.int .u8) (RTy.pair (RTy.int .u8) (RTy.pair (RTy.int .u8) (RTy.pair (RTy.int .u8) (RTy.pair (RTy.int .u8) (RTy.pair (RTy.int .u8) (RTy.pair (RTy.int .u8) (RTy.pair (RTy.int .u8) (RTy.pair (RTy.int .u8) (RTy.pair (RTy.int .u8) (RTy.pair (RTy.int .u8) (RTy.pair (RTy.int .u8) (RTy.pair (RTy.int .u8) (RTy.pair (RTy.int .u8) (RTy.pair (RTy.int .u8) (RTy.pair (RTy.int .u8) (RTy.pair (RTy.int .u8) (RTy.pair (RTy.int .u8) (RTy.pair (RTy.int .u8) (RTy.pair (RTy.int .u8) (RTy.pair (RTy.int .u8) (RTy.pair (RTy.int .u8) (RTy.pair (RTy.int .u8) (RTy.pair (RTy.int .u8) (RTy.pair (RTy.int .u8) (RTy.pair (RTy.int .u8) (RTy.pair (RTy.int .u8) (RTy.pair (RTy.int .u8) (RTy.pair (RTy.int .u8) (RTy.pair (RTy.int .u8) (RTy.pair (RTy.int .u8) (RTy.pair (RTy.int .u8) (RTy.pair (RTy.int .u8) (RTy.pair (RTy.int .u8) (RTy.pair (RTy.int .u8) (RTy.pair (RTy.int .u8) (RTy.pair (RTy.int .u8) (RTy.pair (RTy.int .u8) (RTy.pair (RTy.int .u8) (RTy.pair (RTy.int .u8) (RTy.pair (RTy.int .u8) (RTy.pair (RTy.int .u8) (RTy.pair (RTy.int .u8) (RTy.pair (RTy.int .u8) (RTy.pair (RTy.int .u8) (RTy.pair (RTy.int .u8) (RTy.pair (RTy.int .u8) (RTy.pair (RTy.int .u8) (RTy.pair (RTy.int .u8) (RTy.int .u8))))))))))))))))))))))))))))))))))))))))))))))))))))))))))))))))
abbrev t335 : RTy := RTy.unit
abbrev t336 : RTy := RTy.unit
abbrev t346 : RTy := (RTy.pair I (RTy.list I))
instance : GT Tryz.prog := ⟨fun _ => True, fun _ _ _ h => h⟩
def Rt : Tab := lookT [(1, RTy.fn), (2, I), (3, I), (4, RTy.bool), (5, (RTy.int .u8)), (6, (RTy.int .u8)), (7, t7), (8, t8), (9, RTy.str), (10, RTy.str), (11, RTy.str), (12, (RTy.int .u64)), (13, t13), (14, t14), (21, (RTy.int .i32)), (22, (RTy.list T0)), (23, (RTy.list T1)), (24, (RTy.list T2)), (25, (RTy.list I)), (26, (RTy.list T5)), (27, (RTy.list T7)), (28, (RTy.list T9)), (29, (RTy.list T10)), (30, (RTy.list T11)), (31, (RTy.list T12)), (32, (RTy.list T13)), (33, (RTy.list T14)), (34, (RTy.list T16)), (35, t35), (36, T17), (37, RTy.fn), (38, I), (39, RTy.fn), (40, RTy.fn), (41, t41), (42, T14), (43, (RTy.list T3)), (44, t44), (45, T4), (46, t46), (47, T5), (48, t48), (49, T3), (50, (RTy.list T18)), (52, RTy.fn), (53, t53), (54, T18), (55, RTy.fn), (57, RTy.fn), (58, RTy.fn), (59, RTy.fn), (60, t60), (61, T12), (62, t62), (63, T13), (65, RTy.fn), (66, t66), (67, T19), (68, t68), (69, T20), (70, RTy.fn), (71, t71), (72, T8), (73, t73), (74, T9), (75, t75), (76, T11), (79, RTy.fn), (80, RTy.fn), (81, RTy.fn), (83, (RTy.list RTy.fn)), (84, RTy.fn), (85, RTy.fn), (86, t86), (87, T2), (89, RTy.fn), (90, t90), (91, T21), (92, (RTy.list T21)), (94, RTy.fn), (95, RTy.fn), (96, RTy.fn), (97, RTy.fn), (98, RTy.fn), (99, RTy.fn), (100, RTy.fn), (101, RTy.fn), (102, t102), (103, T22), (105, RTy.fn), (106, T23), (107, t107), (108, T24), (109, RTy.fn), (110, RTy.fn), (111, RTy.fn), (113, RTy.fn), (114, RTy.fn), (115, (RTy.list T15)), (116, t116), (117, T16), (118, RTy.fn), (119, t119), (120, T15), (121, RTy.fn), (123, RTy.fn), (124, t124), (125, T6), (126, t126), (127, T7), (128, RTy.fn), (129, t129), (130, T25), (131, RTy.fn), (132, RTy.fn), (136, RTy.fn), (137, RTy.fn), (138, RTy.fn), (139, t139), (140, T26), (141, RTy.fn), (142, RTy.fn), (144, RTy.fn), (145, (RTy.list T4)), (146, RTy.fn), (147, RTy.fn), (148, RTy.fn), (149, RTy.fn), (150, RTy.fn), (151, RTy.fn), (152, RTy.fn), (153, RTy.fn), (154, RTy.fn), (156, RTy.fn), (158, RTy.fn), (160, RTy.fn), (161, RTy.fn), (162, t162), (163, T0), (164, RTy.fn), (165, RTy.fn), (167, RTy.fn), (168, RTy.fn), (169, RTy.fn), (171, RTy.fn), (172, t172), (173, T27), (174, RTy.fn), (175, RTy.fn), (176, RTy.fn), (177, RTy.fn), (178, (RTy.list (RTy.int .u8))), (179, RTy.fn), (180, RTy.fn), (182, RTy.fn), (183, RTy.fn), (184, RTy.fn), (185, RTy.fn), (186, RTy.fn), (187, RTy.fn), (188, RTy.fn), (189, RTy.fn), (191, RTy.fn), (192, RTy.fn), (193, RTy.fn), (194, RTy.fn), (195, RTy.fn), (196, RTy.fn), (198, RTy.fn), (199, RTy.fn), (200, t200), (201, T28), (202, RTy.fn), (204, RTy.fn), (205, RTy.fn), (206, RTy.fn), (207, RTy.fn), (208, RTy.fn), (209, t209), (210, T10), (212, RTy.fn), (213, RTy.fn), (214, RTy.fn), (215, T29), (216, RTy.fn), (218, RTy.fn), (219, RTy.fn), (220, (RTy.list (RTy.list T21))), (221, RTy.fn), (222, RTy.fn), (223, RTy.fn), (224, RTy.fn), (225, RTy.fn), (226, RTy.fn), (227, RTy.fn), (228, RTy.fn), (229, RTy.fn), (230, RTy.fn), (231, RTy.fn), (232, RTy.fn), (233, RTy.fn), (234, RTy.fn), (235, RTy.fn), (236, RTy.fn), (237, RTy.fn), (238, RTy.fn), (239, RTy.fn), (240, RTy.fn), (241, RTy.fn), (242, RTy.fn), (243, RTy.fn), (244, RTy.fn), (245, RTy.fn), (246, RTy.fn), (247, RTy.fn), (248, RTy.fn), (249, RTy.fn), (250, RTy.fn), (251, RTy.fn), (252, RTy.fn), (253, RTy.fn), (254, (RTy.int .u64)), (256, t256), (257, T30), (258, RTy.fn), (259, RTy.fn), (260, RTy.fn), (261, t261), (262, RTy.fn), (263, RTy.fn), (265, RTy.fn), (266, RTy.fn), (267, RTy.fn), (268, RTy.fn), (269, RTy.fn), (270, (RTy.int .u64)), (271, RTy.fn), (272, RTy.fn), (273, RTy.fn), (274, RTy.fn), (275, RTy.fn), (276, RTy.fn), (277, RTy.fn), (278, RTy.fn), (279, RTy.fn), (280, RTy.fn), (281, RTy.fn), (282, RTy.fn), (283, t283), (284, (RTy.int .u32)), (286, t286), (287, T31), (288, RTy.fn), (289, RTy.fn), (290, RTy.fn), (291, RTy.fn), (292, RTy.fn), (293, RTy.fn), (294, RTy.fn), (295, I), (297, RTy.fn), (298, RTy.fn), (299, RTy.fn), (300, RTy.fn), (301, RTy.fn), (302, t302), (303, T32), (304, (RTy.list RTy.fn)), (305, RTy.fn), (306, RTy.fn), (307, RTy.fn), (308, RTy.fn), (310, RTy.fn), (311, RTy.fn), (312, (RTy.int .u64)), (313, RTy.fn), (314, RTy.fn), (315, RTy.fn), (317, RTy.fn), (318, RTy.fn), (319, RTy.fn), (320, t320), (321, t321), (322, RTy.fn), (323, RTy.fn), (324, RTy.fn), (325, RTy.fn), (327, RTy.fn), (328, RTy.fn), (329, RTy.fn), (330, RTy.fn), (331, RTy.fn), (334, RTy.unit), (335, t335), (336, t336), (337, RTy.fn), (338, (RTy.int .u8)), (339, (RTy.int .u8)), (340, RTy.fn), (342, (RTy.int .i32)), (343, (RTy.int .i32)), (346, t346), (347, T1)]
theorem hm : Tryz.prog.follows .mixedOrders = true := by kernel_rfl
theorem go (K : Calld) (l : List Nat) (C : List (Nat × List Cmd)) (E : List Cmd) {fn : Wy} {m : Nat} {todo : List Item} {st : St} {res : AV} {bout : List (Nat × Blk)} {T : Tree} (h : T.gives Tryz.prog fn m res bout) (e : tree Tryz.prog Rt K fn.rd m l fn.fn.results.toList C E 1000 todo st = T) : Ev Tryz.prog fn m todo st res bout := Ev.tree hm (R := Rt) (K := K) e h
abbrev R_u78 : Type := Int × List (T21).T × List (T21).T
def res_u78 (r : R_u78) : AV := .tup []
def bo_u78 (end_ : Int) (z00 : Int) (z10 : Int) (z20 : List (T21).T) (z30 : List (T21).T) (r : R_u78) : List (Nat × Blk) := [(0, .var 3 [.r (.v (.int .i64 r.1))]), (0, .var 3 [.r (.v (.int .i64 z10))]), (0, .var 92 [.own 3 1]), (1, .row 91 T21 r.2.1), (0, .var 92 [.own 5 1]), (1, .row 91 T21 r.2.2)]
def args_u78 (end_ : Int) (z00 : Int) (z10 : Int) (z20 : List (T21).T) (z30 : List (T21).T) : List AV := [.r (.v (.int .i64 end_)), .ptr 0 0 0, .ptr 1 0 0, .ptr 2 0 0, .ptr 4 0 0]
def bin_u78 (end_ : Int) (z00 : Int) (z10 : Int) (z20 : List (T21).T) (z30 : List (T21).T) : List Blk := [.var 3 [.r (.v (.int .i64 z00))], .var 3 [.r (.v (.int .i64 z10))], .var 92 [.own 3 0], .row 91 T21 z20, .var 92 [.own 5 0], .row 91 T21 z30]
abbrev C_u78 (end_ : Int) (z00 : Int) (z10 : Int) (z20 : List (T21).T) (z30 : List (T21).T) (r : R_u78) : Prop := CC Tryz.prog 126 (args_u78 end_ z00 z10 z20 z30) (bin_u78 end_ z00 z10 z20 z30) (res_u78 r) (bo_u78 end_ z00 z10 z20 z30 r)
def f_u78 (k : Nat) (end_ : Int) (z00 : Int) (z10 : Int) (z20 : List (T21).T) (z30 : List (T21).T) : Option R_u78 :=
  bif (decide (IntKind.i64.wrap (end_ - z00) ≥ z10)) then
  if ((z20.length + [(z00, end_)].length) * (16 : Nat) ≤ (140737488355328 : Nat)) then
  some ((end_, z20 ++ [(z00, end_)], z30))
  else none
  else
  if ((z30.length + [(z00, end_)].length) * (16 : Nat) ≤ (140737488355328 : Nat)) then
  some ((end_, z20, z30 ++ [(z00, end_)]))
  else none
def v_u78 (k : Nat) (end_ : Int) (z00 : Int) (z10 : Int) (z20 : List (T21).T) (z30 : List (T21).T) : R_u78 := (f_u78 k end_ z00 z10 z20 z30).getD (0, [], [])
def ke_u78 (k : Nat) : Ke := (126, fun xs => match xs with
  | [_, .ptr _ _ _, .ptr _ _ _, .ptr _ _ _, .ptr _ _ _] => some [false, true, true, true, true]
  | _ => none, fun xs bs => match xs, bs with
  | [.r (.v (.int .i64 end_)), .ptr 0 0 0, .ptr 1 0 0, .ptr 2 0 0, .ptr 4 0 0], [.var 3 [.r (.v (.int .i64 z00))], .var 3 [.r (.v (.int .i64 z10))], .var 92 [.own 3 0], .row 91 tz20_ qz20, .var 92 [.own 5 0], .row 91 tz30_ qz30] => (castL tz20_ T21 qz20).bind fun z20 => (castL tz30_ T21 qz30).bind fun z30 => some (.one (res_u78 (v_u78 k end_ z00 z10 z20 z30), bo_u78 end_ z00 z10 z20 z30 (v_u78 k end_ z00 z10 z20 z30)))
  | _, _ => none)
theorem of_u78 (k : Nat) (end_ : Int) (z00 : Int) (z10 : Int) (z20 : List (T21).T) (z30 : List (T21).T) (r : R_u78) (h : f_u78 k end_ z00 z10 z20 z30 = some r) : C_u78 end_ z00 z10 z20 z30 r := by
  refine CC.of (fn := Tryz.f126) (by kernel_rfl) (by kernel_rfl) (by kernel_rfl) (by kernel_rfl) ?_
  unfold f_u78 at h
  exact go (mkK []) [] [] [.autoB [] true [3, 5]] (gT h (fun c h => gN1 h id fun h => gL h) fun c h => gN1 h id fun h => gL h) (by kernel_rfl)
theorem cc_u78 {k : Nat} {end_ : Int} {z00 : Int} {z10 : Int} {z20 : List (T21).T} {z30 : List (T21).T} (h : (f_u78 k end_ z00 z10 z20 z30).isSome = true) : C_u78 end_ z00 z10 z20 z30 (v_u78 k end_ z00 z10 z20 z30) := ccG (Φ := C_u78 end_ z00 z10 z20 z30) h (of_u78 k end_ z00 z10 z20 z30)
abbrev R_u0 : Type := List (T21).T × List (T21).T
def res_u0 (r : R_u0) : AV := .r (.v (.bool true))
def bo_u0 (s40 : List (I).T) (s50 : Int) (s110 : List (T21).T) (s120 : List (T21).T) (x0 : T21.T) (r : R_u0) : List (Nat × Blk) := [(0, .loop .ready none (rcAt Tryz.f81 11 [91]) (mkS 66 [(4, .ptr 1 0 0), (5, .ptr 2 0 0), (11, .ptr 3 0 0), (12, .ptr 5 0 0)])), (0, .var 25 [.r (.ro I s40)]), (0, .var 3 [.r (.v (.int .i64 s50))]), (0, .var 92 [.own 4 1]), (1, .row 91 T21 r.1), (0, .var 92 [.own 6 1]), (1, .row 91 T21 r.2)]
def args_u0 (s40 : List (I).T) (s50 : Int) (s110 : List (T21).T) (s120 : List (T21).T) (x0 : T21.T) : List AV := [.agg (rvs (enc T21 x0))]
def bin_u0 (s40 : List (I).T) (s50 : Int) (s110 : List (T21).T) (s120 : List (T21).T) (x0 : T21.T) : List Blk := [.loop .ready none (rcAt Tryz.f81 11 [91]) (mkS 66 [(4, .ptr 1 0 0), (5, .ptr 2 0 0), (11, .ptr 3 0 0), (12, .ptr 5 0 0)]), .var 25 [.r (.ro I s40)], .var 3 [.r (.v (.int .i64 s50))], .var 92 [.own 4 0], .row 91 T21 s110, .var 92 [.own 6 0], .row 91 T21 s120]
abbrev C_u0 (s40 : List (I).T) (s50 : Int) (s110 : List (T21).T) (s120 : List (T21).T) (x0 : T21.T) (r : R_u0) : Prop := YC Tryz.prog (args_u0 s40 s50 s110 s120 x0) (bin_u0 s40 s50 s110 s120 x0) (res_u0 r) (bo_u0 s40 s50 s110 s120 x0 r)
def st_u0_15 (s40 : List (I).T) (s50 : Int) (s110 : List (T21).T) (s120 : List (T21).T) (x0 : T21.T) (y0 : List (I).T) (y1 : Int) (y2 : Int) (y3 : List (T21).T) (y4 : List (T21).T) (y5 : T21.T) (y6 : Int) : St := ⟨mkS 66 [(13, .ptr 1000000 0 0), (15, .fn ((Fn.func 126)) [] [.ptr 1000001 0 0, .ptr 2 0 0, .ptr 3 0 0, .ptr 5 0 0]), (40, .r (.ro I y0)), (41, .r (.v (.int .i64 y1))), (42, .r (.v (.int .i64 y2)))], [(0, 0, .loop .busy none (rcAt Tryz.f81 11 [91]) (mkS 66 [(4, .ptr 1 0 0), (5, .ptr 2 0 0), (11, .ptr 3 0 0), (12, .ptr 5 0 0)])), (1, 0, .var 25 [.r (.ro I s40)]), (2, 0, .var 3 [.r (.v (.int .i64 s50))]), (3, 0, .var 92 [.own 4 1]), (4, 1, .row 91 T21 y3), (5, 0, .var 92 [.own 6 1]), (6, 1, .row 91 T21 y4), (1000000, 0, .var 91 (rvs (enc T21 y5))), (1000001, 0, .var 3 [.r (.v (.int .i64 y6))])]⟩
def f_u0_15 (k : Nat) (s40 : List (I).T) (s50 : Int) (s110 : List (T21).T) (s120 : List (T21).T) (x0 : T21.T) : Nat → List (I).T → Int → Int → List (T21).T → List (T21).T → T21.T → Int → Option R_u0
  | 0, _, _, _, _, _, _, _ => none
  | j + 1, y0, y1, y2, y3, y4, y5, y6 =>
  bif (decide (y2 < y1)) then
  if (0 ≤ y2) ∧ (y2 < (↑y0.length : Int)) then
  bif (decide (y0.getD y2.toNat I.dflt > y5.1) && decide (y0.getD y2.toNat I.dflt < y5.2)) then
  if ((f_u78 k (y0.getD y2.toNat I.dflt) y6 s50 y3 y4).isSome = true) then
  f_u0_15 k s40 s50 s110 s120 x0 j y0 y1 ((IntKind.i64.wrap (y2 + 1))) ((v_u78 k (y0.getD y2.toNat I.dflt) y6 s50 y3 y4).2.1) ((v_u78 k (y0.getD y2.toNat I.dflt) y6 s50 y3 y4).2.2) y5 ((v_u78 k (y0.getD y2.toNat I.dflt) y6 s50 y3 y4).1)
  else none
  else
  f_u0_15 k s40 s50 s110 s120 x0 j y0 y1 ((IntKind.i64.wrap (y2 + 1))) y3 y4 y5 y6
  else none
  else
  if ((f_u78 k y5.2 y6 s50 y3 y4).isSome = true) then
  some (((v_u78 k y5.2 y6 s50 y3 y4).2.1, (v_u78 k y5.2 y6 s50 y3 y4).2.2))
  else none
def f_u0 (k : Nat) (s40 : List (I).T) (s50 : Int) (s110 : List (T21).T) (s120 : List (T21).T) (x0 : T21.T) : Option R_u0 :=
  f_u0_15 k s40 s50 s110 s120 x0 k s40 ((↑s40.length : Int)) 0 s110 s120 x0 x0.1
def v_u0 (k : Nat) (s40 : List (I).T) (s50 : Int) (s110 : List (T21).T) (s120 : List (T21).T) (x0 : T21.T) : R_u0 := (f_u0 k s40 s50 s110 s120 x0).getD ([], [])
def ke_u0 (k : Nat) : Ke := (1000000, fun xs => match xs with
  | [_] => some [false]
  | _ => none, fun xs bs => match xs, bs with
  | [.agg qx0], [.loop _ _ _ qs, .var 25 [.r (.ro ts40_ qs40)], .var 3 [.r (.v (.int .i64 s50))], .var 92 [.own 4 0], .row 91 ts110_ qs110, .var 92 [.own 6 0], .row 91 ts120_ qs120] => (decS [] T21 qx0).bind fun x0 => (castL ts40_ I qs40).bind fun s40 => (castL ts110_ T21 qs110).bind fun s110 => (castL ts120_ T21 qs120).bind fun s120 => some (.one (res_u0 (v_u0 k s40 s50 s110 s120 x0), bo_u0 s40 s50 s110 s120 x0 (v_u0 k s40 s50 s110 s120 x0)))
  | _, _ => none)
def cs_u0 : List (Nat × List Cmd) := [(15, [.autoB [13, 15, 40, 41, 42] false [4, 6]])]
abbrev E_u0 (s40 : List (I).T) (s50 : Int) (s110 : List (T21).T) (s120 : List (T21).T) (x0 : T21.T) (todo : List Item) (st : St) (o : Option R_u0) : Prop := ∀ r, o = some r → Ev Tryz.prog .round 7 todo st (res_u0 r) (bo_u0 s40 s50 s110 s120 x0 r)
theorem ev_u0 (k : Nat) (s40 : List (I).T) (s50 : Int) (s110 : List (T21).T) (s120 : List (T21).T) (x0 : T21.T) : ∀ j, (∀ (y0 : List (I).T) (y1 : Int) (y2 : Int) (y3 : List (T21).T) (y4 : List (T21).T) (y5 : T21.T) (y6 : Int), E_u0 s40 s50 s110 s120 x0 (placeC (rcAt Tryz.f81 11 [91]).body 15) (st_u0_15 s40 s50 s110 s120 x0 y0 y1 y2 y3 y4 y5 y6) (f_u0_15 k s40 s50 s110 s120 x0 j y0 y1 y2 y3 y4 y5 y6))
  | 0 => fun _ _ _ _ _ _ _ _ h => (nomatch h)
  | j + 1 => by
    have ih := @ev_u0 k s40 s50 s110 s120 x0 j
    · intro y0 y1 y2 y3 y4 y5 y6 r h
      rw [f_u0_15] at h
      exact go (mkK [ke_u78 k]) [] cs_u0 [.autoB [0] true [4, 6]] (gT h (fun c h => gN2 h fun h => gT h (fun c h => gN1 h (fun q => cc_u78 q) fun h => gC h 15 (ih _ _ _ _ _ _ _ _)) fun c h => gC h 15 (ih _ _ _ _ _ _ _ _)) fun c h => gN1 h (fun q => cc_u78 q) fun h => gL h) (by kernel_rfl)
theorem of_u0 (k : Nat) (s40 : List (I).T) (s50 : Int) (s110 : List (T21).T) (s120 : List (T21).T) (x0 : T21.T) (r : R_u0) (h : f_u0 k s40 s50 s110 s120 x0 = some r) : C_u0 s40 s50 s110 s120 x0 r := by
  refine YC.of (by rw [show bin_u0 s40 s50 s110 s120 x0 = _ from rfl]; exact List.cons_ne_nil _ _) (by kernel_rfl) ?_
  unfold f_u0 at h
  exact go (mkK [ke_u78 k]) [] cs_u0 [.autoB [0] true [4, 6]] (gC h 15 ((ev_u0 k s40 s50 s110 s120 x0 k) _ _ _ _ _ _ _ _)) (by kernel_rfl)
theorem cc_u0 {k : Nat} {s40 : List (I).T} {s50 : Int} {s110 : List (T21).T} {s120 : List (T21).T} {x0 : T21.T} (h : (f_u0 k s40 s50 s110 s120 x0).isSome = true) : C_u0 s40 s50 s110 s120 x0 (v_u0 k s40 s50 s110 s120 x0) := ccG (Φ := C_u0 s40 s50 s110 s120 x0) h (of_u0 k s40 s50 s110 s120 x0)

end
/-! ### a stretch is cut: the program -/
theorem gdm {α : Type} (l : List α) (i : Nat) (d : α) (h : i < l.length) : l.getD i d ∈ l := by simp [h]
end Go.AM
namespace Go.AM
open Go Go.Proofs
noncomputable section
abbrev R_u81 : Type := Int
def res_u81 (r : R_u81) : AV := .r (.v (.int .i64 r))
def bo_u81 (turns_ : List (I).T) (r : R_u81) : List (Nat × Blk) := []
def args_u81 (turns_ : List (I).T) : List AV := [.r (.ro I turns_)]
def bin_u81 (turns_ : List (I).T) : List Blk := []
abbrev C_u81 (turns_ : List (I).T) (r : R_u81) : Prop := CC Tryz.prog 124 (args_u81 turns_) (bin_u81 turns_) (res_u81 r) (bo_u81 turns_ r)
def st_u81_4 (y0 : List (I).T) (y1 : List (I).T) (y2 : Int) (y3 : Int) : St := ⟨mkS 42 [(0, .r (.ro I y0)), (9, .r (.ro I y1)), (10, .r (.v (.int .i64 y2))), (11, .r (.v (.int .i64 y3)))], []⟩
def st_u81_10 (y0 : List (I).T) (y1 : Int) (y2 : Int) : St := ⟨mkS 42 [(0, .r (.ro I y0)), (23, .r (.v (.int .i64 y1))), (24, .r (.v (.int .i64 y2)))], []⟩
mutual
def f_u81_4 (k : Nat) : Nat → List (I).T → List (I).T → Int → Int → Option R_u81
  | 0, _, _, _, _ => none
  | j + 1, y0, y1, y2, y3 =>
  bif (decide (y3 < y2)) then
  if (0 ≤ y3) ∧ (y3 < (↑y1.length : Int)) then
  bif (decide (y1.getD y3.toNat I.dflt < (0 : Int)) || decide (y1.getD y3.toNat I.dflt > (17179869184 : Int))) then
  some 1
  else
  f_u81_4 k j y0 y1 y2 ((IntKind.i64.wrap (y3 + 1)))
  else none
  else
  f_u81_10 k j y0 ((↑y0.length : Int)) 0
def f_u81_10 (k : Nat) : Nat → List (I).T → Int → Int → Option R_u81
  | 0, _, _, _ => none
  | j + 1, y0, y1, y2 =>
  bif (decide (y2 < y1)) then
  if (decide (y2 > (0 : Int)) = true → 0 ≤ y2) ∧ (decide (y2 > (0 : Int)) = true → y2 < (↑y0.length : Int)) ∧ (decide (y2 > (0 : Int)) = true → (0 : Int) ≤ IntKind.i64.wrap (y2 - (1 : Int))) ∧ (decide (y2 > (0 : Int)) = true → IntKind.i64.wrap (y2 - (1 : Int)) < (↑y0.length : Int)) then
  bif (decide (y2 > (0 : Int)) && decide (y0.getD y2.toNat I.dflt ≤ y0.getD (IntKind.i64.wrap (y2 - (1 : Int))).toNat I.dflt)) then
  some 9
  else
  f_u81_10 k j y0 y1 ((IntKind.i64.wrap (y2 + 1)))
  else none
  else
  some 0
end
def f_u81 (k : Nat) (turns_ : List (I).T) : Option R_u81 :=
  bif (decide ((↑turns_.length : Int) > (512 : Int))) then
  some 8
  else
  f_u81_4 k k turns_ turns_ ((↑turns_.length : Int)) 0
def v_u81 (k : Nat) (turns_ : List (I).T) : R_u81 := (f_u81 k turns_).getD 0
def ke_u81 (k : Nat) : Ke := (124, fun xs => match xs with
  | [_] => some [false]
  | _ => none, fun xs bs => match xs, bs with
  | [.r (.ro tturns__ qturns_)], [] => (castL tturns__ I qturns_).bind fun turns_ => some (.one (res_u81 (v_u81 k turns_), bo_u81 turns_ (v_u81 k turns_)))
  | _, _ => none)
def cs_u81 : List (Nat × List Cmd) := [(4, [.autoB [0, 9, 10, 11] false []]), (10, [.autoB [0, 23, 24] false []])]
abbrev E_u81 (turns_ : List (I).T) (todo : List Item) (st : St) (o : Option R_u81) : Prop := ∀ r, o = some r → Ev Tryz.prog Tryz.f124 0 todo st (res_u81 r) (bo_u81 turns_ r)
theorem ev_u81 (k : Nat) (turns_ : List (I).T) : ∀ j, (∀ (y0 : List (I).T) (y1 : List (I).T) (y2 : Int) (y3 : Int), E_u81 turns_ (placeAt Tryz.f124 4) (st_u81_4 y0 y1 y2 y3) (f_u81_4 k j y0 y1 y2 y3)) ∧ (∀ (y0 : List (I).T) (y1 : Int) (y2 : Int), E_u81 turns_ (placeAt Tryz.f124 10) (st_u81_10 y0 y1 y2) (f_u81_10 k j y0 y1 y2))
  | 0 => ⟨fun _ _ _ _ _ h => (nomatch h), fun _ _ _ _ h => (nomatch h)⟩
  | j + 1 => by
    have ih := @ev_u81 k turns_ j
    refine ⟨?_, ?_⟩
    · intro y0 y1 y2 y3 r h
      rw [f_u81_4] at h
      exact go (mkK []) [] cs_u81 [.autoB [2] true []] (gT h (fun c h => gN2 h fun h => gT h (fun c h => gL h) fun c h => gC h 4 (ih.1 _ _ _ _ _)) fun c h => gC h 10 (ih.2 _ _ _ _)) (by kernel_rfl)
    · intro y0 y1 y2 r h
      rw [f_u81_10] at h
      exact go (mkK []) [] cs_u81 [.autoB [2] true []] (gT h (fun c h => gN h (fun q => conjC q.1 (conjC q.2.1 (conjC q.2.2.1 (conjC q.2.2.2 conj0)))) fun h => gT h (fun c h => gL h) fun c h => gC h 10 (ih.2 _ _ _ _)) fun c h => gL h) (by kernel_rfl)
theorem of_u81 (k : Nat) (turns_ : List (I).T) (r : R_u81) (h : f_u81 k turns_ = some r) : C_u81 turns_ r := by
  refine CC.of (fn := Tryz.f124) (by kernel_rfl) (by kernel_rfl) (by kernel_rfl) (by kernel_rfl) ?_
  unfold f_u81 at h
  exact go (mkK []) [] cs_u81 [.autoB [2] true []] (gT h (fun c h => gL h) fun c h => gC h 4 ((ev_u81 k turns_ k).1 _ _ _ _ _)) (by kernel_rfl)
theorem cc_u81 {k : Nat} {turns_ : List (I).T} (h : (f_u81 k turns_).isSome = true) : C_u81 turns_ (v_u81 k turns_) := ccG (Φ := C_u81 turns_) h (of_u81 k turns_)
end
end Go.AM
namespace Go.AM
open Go Go.Proofs
noncomputable section
end
end Go.AM
namespace Go.AM
open Go Go.Proofs
noncomputable section
end
end Go.AM
namespace Go.AM
open Go Go.Proofs
noncomputable section
end
end Go.AM
namespace Go.AM
open Go Go.Proofs
noncomputable section
abbrev R_u83 : Type := List (T21).T × List (T21).T
def res_u83 (r : R_u83) : AV := .tup []
def bo_u83 (yield_40 : List (I).T) (yield_50 : Int) (yield_110 : List (T21).T) (yield_120 : List (T21).T) (z00 : List (T2).T) (r : R_u83) : List (Nat × Blk) := [(0, .loop .ready none (rcAt Tryz.f81 11 [91]) (mkS 66 [(4, .ptr 1 0 0), (5, .ptr 2 0 0), (11, .ptr 3 0 0), (12, .ptr 5 0 0)])), (0, .var 25 [.r (.ro I yield_40)]), (0, .var 3 [.r (.v (.int .i64 yield_50))]), (0, .var 92 [.own 4 1]), (1, .row 91 T21 r.1), (0, .var 92 [.own 6 1]), (1, .row 91 T21 r.2), (0, .var 24 [.r (.ro T2 z00)])]
def args_u83 (yield_40 : List (I).T) (yield_50 : Int) (yield_110 : List (T21).T) (yield_120 : List (T21).T) (z00 : List (T2).T) : List AV := [.own 0 0, .ptr 7 0 0]
def bin_u83 (yield_40 : List (I).T) (yield_50 : Int) (yield_110 : List (T21).T) (yield_120 : List (T21).T) (z00 : List (T2).T) : List Blk := [.loop .ready none (rcAt Tryz.f81 11 [91]) (mkS 66 [(4, .ptr 1 0 0), (5, .ptr 2 0 0), (11, .ptr 3 0 0), (12, .ptr 5 0 0)]), .var 25 [.r (.ro I yield_40)], .var 3 [.r (.v (.int .i64 yield_50))], .var 92 [.own 4 0], .row 91 T21 yield_110, .var 92 [.own 6 0], .row 91 T21 yield_120, .var 24 [.r (.ro T2 z00)]]
abbrev C_u83 (yield_40 : List (I).T) (yield_50 : Int) (yield_110 : List (T21).T) (yield_120 : List (T21).T) (z00 : List (T2).T) (r : R_u83) : Prop := CC Tryz.prog 172 (args_u83 yield_40 yield_50 yield_110 yield_120 z00) (bin_u83 yield_40 yield_50 yield_110 yield_120 z00) (res_u83 r) (bo_u83 yield_40 yield_50 yield_110 yield_120 z00 r)
def st_u83_1 (yield_40 : List (I).T) (yield_50 : Int) (yield_110 : List (T21).T) (yield_120 : List (T21).T) (z00 : List (T2).T) (y0 : Int) (y1 : List (T21).T) (y2 : List (T21).T) : St := ⟨mkS 61 [(0, .own 0 0), (1, .ptr 7 0 0), (3, .r (.v (.int .i64 y0)))], [(0, 0, .loop .ready none (rcAt Tryz.f81 11 [91]) (mkS 66 [(4, .ptr 1 0 0), (5, .ptr 2 0 0), (11, .ptr 3 0 0), (12, .ptr 5 0 0)])), (1, 0, .var 25 [.r (.ro I yield_40)]), (2, 0, .var 3 [.r (.v (.int .i64 yield_50))]), (3, 0, .var 92 [.own 4 1]), (4, 1, .row 91 T21 y1), (5, 0, .var 92 [.own 6 1]), (6, 1, .row 91 T21 y2), (7, 0, .var 24 [.r (.ro T2 z00)])]⟩
def st_u83_5 (yield_40 : List (I).T) (yield_50 : Int) (yield_110 : List (T21).T) (yield_120 : List (T21).T) (z00 : List (T2).T) (y0 : Int) (y1 : Int) (y2 : List (T21).T) (y3 : List (T21).T) : St := ⟨mkS 61 [(0, .own 0 0), (1, .ptr 7 0 0), (3, .r (.v (.int .i64 y0))), (4, .r (.v (.int .i64 y1)))], [(0, 0, .loop .ready none (rcAt Tryz.f81 11 [91]) (mkS 66 [(4, .ptr 1 0 0), (5, .ptr 2 0 0), (11, .ptr 3 0 0), (12, .ptr 5 0 0)])), (1, 0, .var 25 [.r (.ro I yield_40)]), (2, 0, .var 3 [.r (.v (.int .i64 yield_50))]), (3, 0, .var 92 [.own 4 1]), (4, 1, .row 91 T21 y2), (5, 0, .var 92 [.own 6 1]), (6, 1, .row 91 T21 y3), (7, 0, .var 24 [.r (.ro T2 z00)])]⟩
mutual
def f_u83_1 (k : Nat) (yield_40 : List (I).T) (yield_50 : Int) (yield_110 : List (T21).T) (yield_120 : List (T21).T) (z00 : List (T2).T) : Nat → Int → List (T21).T → List (T21).T → Option R_u83
  | 0, _, _, _ => none
  | j + 1, y0, y1, y2 =>
  bif (decide (y0 < (↑z00.length : Int))) then
  if (0 ≤ y0) ∧ (y0 < (↑z00.length : Int)) then
  bif ((z00.getD y0.toNat T2.dflt).2.2.1 == (3 : Int)) then
  f_u83_1 k yield_40 yield_50 yield_110 yield_120 z00 j ((IntKind.i64.wrap (y0 + 1))) y1 y2
  else
  f_u83_5 k yield_40 yield_50 yield_110 yield_120 z00 j y0 y0 y1 y2
  else none
  else
  some ((y1, y2))
def f_u83_5 (k : Nat) (yield_40 : List (I).T) (yield_50 : Int) (yield_110 : List (T21).T) (yield_120 : List (T21).T) (z00 : List (T2).T) : Nat → Int → Int → List (T21).T → List (T21).T → Option R_u83
  | 0, _, _, _, _ => none
  | j + 1, y0, y1, y2, y3 =>
  if (decide (y1 < (↑z00.length : Int)) = true → 0 ≤ y1) ∧ (decide (y1 < (↑z00.length : Int)) = true → y1 < (↑z00.length : Int)) ∧ ((decide (y1 < (↑z00.length : Int)) && (z00.getD y1.toNat T2.dflt).2.2.1 != (3 : Int)) = true → 0 ≤ y1) ∧ ((decide (y1 < (↑z00.length : Int)) && (z00.getD y1.toNat T2.dflt).2.2.1 != (3 : Int)) = true → y1 < (↑z00.length : Int)) ∧ ((decide (y1 < (↑z00.length : Int)) && (z00.getD y1.toNat T2.dflt).2.2.1 != (3 : Int)) = true → 0 ≤ y0) ∧ ((decide (y1 < (↑z00.length : Int)) && (z00.getD y1.toNat T2.dflt).2.2.1 != (3 : Int)) = true → y0 < (↑z00.length : Int)) then
  bif (decide (y1 < (↑z00.length : Int)) && (z00.getD y1.toNat T2.dflt).2.2.1 != (3 : Int) && (z00.getD y1.toNat T2.dflt).2.2.2.2 == (z00.getD y0.toNat T2.dflt).2.2.2.2) then
  f_u83_5 k yield_40 yield_50 yield_110 yield_120 z00 j y0 ((IntKind.i64.wrap (y1 + 1))) y2 y3
  else
  if (0 ≤ y0) ∧ (y0 < (↑z00.length : Int)) ∧ ((0 : Int) ≤ IntKind.i64.wrap (y1 - (1 : Int))) ∧ (IntKind.i64.wrap (y1 - (1 : Int)) < (↑z00.length : Int)) ∧ ((f_u0 k yield_40 yield_50 y2 y3 ((z00.getD y0.toNat T2.dflt).1, (z00.getD (IntKind.i64.wrap (y1 - 1)).toNat T2.dflt).2.1)).isSome = true) then
  f_u83_1 k yield_40 yield_50 yield_110 yield_120 z00 j y1 ((v_u0 k yield_40 yield_50 y2 y3 ((z00.getD y0.toNat T2.dflt).1, (z00.getD (IntKind.i64.wrap (y1 - 1)).toNat T2.dflt).2.1)).1) ((v_u0 k yield_40 yield_50 y2 y3 ((z00.getD y0.toNat T2.dflt).1, (z00.getD (IntKind.i64.wrap (y1 - 1)).toNat T2.dflt).2.1)).2)
  else none
  else none
end
def f_u83 (k : Nat) (yield_40 : List (I).T) (yield_50 : Int) (yield_110 : List (T21).T) (yield_120 : List (T21).T) (z00 : List (T2).T) : Option R_u83 :=
  f_u83_1 k yield_40 yield_50 yield_110 yield_120 z00 k 0 yield_110 yield_120
def v_u83 (k : Nat) (yield_40 : List (I).T) (yield_50 : Int) (yield_110 : List (T21).T) (yield_120 : List (T21).T) (z00 : List (T2).T) : R_u83 := (f_u83 k yield_40 yield_50 yield_110 yield_120 z00).getD ([], [])
def ke_u83 (k : Nat) : Ke := (172, fun xs => match xs with
  | [.own _ _, .ptr _ _ _] => some [true, true]
  | _ => none, fun xs bs => match xs, bs with
  | [.own 0 0, .ptr 7 0 0], [.loop _ _ _ qyield_, .var 25 [.r (.ro tyield_40_ qyield_40)], .var 3 [.r (.v (.int .i64 yield_50))], .var 92 [.own 4 0], .row 91 tyield_110_ qyield_110, .var 92 [.own 6 0], .row 91 tyield_120_ qyield_120, .var 24 [.r (.ro tz00_ qz00)]] => (castL tyield_40_ I qyield_40).bind fun yield_40 => (castL tyield_110_ T21 qyield_110).bind fun yield_110 => (castL tyield_120_ T21 qyield_120).bind fun yield_120 => (castL tz00_ T2 qz00).bind fun z00 => some (.one (res_u83 (v_u83 k yield_40 yield_50 yield_110 yield_120 z00), bo_u83 yield_40 yield_50 yield_110 yield_120 z00 (v_u83 k yield_40 yield_50 yield_110 yield_120 z00)))
  | _, _ => none)
def cs_u83 : List (Nat × List Cmd) := [(1, [.autoB [0, 1, 3] false [4, 6]]), (5, [.autoB [0, 1, 3, 4] false [4, 6]])]
abbrev E_u83 (yield_40 : List (I).T) (yield_50 : Int) (yield_110 : List (T21).T) (yield_120 : List (T21).T) (z00 : List (T2).T) (todo : List Item) (st : St) (o : Option R_u83) : Prop := ∀ r, o = some r → Ev Tryz.prog Tryz.f172 8 todo st (res_u83 r) (bo_u83 yield_40 yield_50 yield_110 yield_120 z00 r)
theorem ev_u83 (k : Nat) (yield_40 : List (I).T) (yield_50 : Int) (yield_110 : List (T21).T) (yield_120 : List (T21).T) (z00 : List (T2).T) : ∀ j, (∀ (y0 : Int) (y1 : List (T21).T) (y2 : List (T21).T), E_u83 yield_40 yield_50 yield_110 yield_120 z00 (placeAt Tryz.f172 1) (st_u83_1 yield_40 yield_50 yield_110 yield_120 z00 y0 y1 y2) (f_u83_1 k yield_40 yield_50 yield_110 yield_120 z00 j y0 y1 y2)) ∧ (∀ (y0 : Int) (y1 : Int) (y2 : List (T21).T) (y3 : List (T21).T), E_u83 yield_40 yield_50 yield_110 yield_120 z00 (placeAt Tryz.f172 5) (st_u83_5 yield_40 yield_50 yield_110 yield_120 z00 y0 y1 y2 y3) (f_u83_5 k yield_40 yield_50 yield_110 yield_120 z00 j y0 y1 y2 y3))
  | 0 => ⟨fun _ _ _ _ h => (nomatch h), fun _ _ _ _ _ h => (nomatch h)⟩
  | j + 1 => by
    have ih := @ev_u83 k yield_40 yield_50 yield_110 yield_120 z00 j
    refine ⟨?_, ?_⟩
    · intro y0 y1 y2 r h
      rw [f_u83_1] at h
      exact go (mkK [ke_u0 k]) [] cs_u83 [.autoB [] true [4, 6]] (gT h (fun c h => gN2 h fun h => gT h (fun c h => gC h 1 (ih.1 _ _ _ _)) fun c h => gC h 5 (ih.2 _ _ _ _ _)) fun c h => gL h) (by kernel_rfl)
    · intro y0 y1 y2 y3 r h
      rw [f_u83_5] at h
      exact go (mkK [ke_u0 k]) [] cs_u83 [.autoB [] true [4, 6]] (gN h (fun q => conjC q.1 (conjC q.2.1 (conjC q.2.2.1 (conjC q.2.2.2.1 (conjC q.2.2.2.2.1 (conjC q.2.2.2.2.2 conj0)))))) fun h => gT h (fun c h => gC h 5 (ih.2 _ _ _ _ _)) fun c h => gN h (fun q => conjC q.1 (conjC q.2.1 (conjC q.2.2.1 (conjC q.2.2.2.1 (conjC (cc_u0 q.2.2.2.2) conj0))))) fun h => gU2 h (.leaf (.tup []) [(0, .loop .ready none (rcAt Tryz.f81 11 [91]) (mkS 66 [(4, .ptr 1 0 0), (5, .ptr 2 0 0), (11, .ptr 3 0 0), (12, .ptr 5 0 0)])), (0, .var 25 [.r (.ro I yield_40)]), (0, .var 3 [.r (.v (.int .i64 yield_50))]), (0, .var 92 [.own 4 1]), (1, .row 91 T21 ((v_u0 k yield_40 yield_50 y2 y3 ((z00.getD y0.toNat T2.dflt).1, (z00.getD (IntKind.i64.wrap (y1 - 1)).toNat T2.dflt).2.1)).1)), (0, .var 92 [.own 6 1]), (1, .row 91 T21 ((v_u0 k yield_40 yield_50 y2 y3 ((z00.getD y0.toNat T2.dflt).1, (z00.getD (IntKind.i64.wrap (y1 - 1)).toNat T2.dflt).2.1)).2)), (0, .var 24 [.r (.ro T2 z00)])]) fun h => gC h 1 (ih.1 _ _ _ _)) (by kernel_rfl)
theorem of_u83 (k : Nat) (yield_40 : List (I).T) (yield_50 : Int) (yield_110 : List (T21).T) (yield_120 : List (T21).T) (z00 : List (T2).T) (r : R_u83) (h : f_u83 k yield_40 yield_50 yield_110 yield_120 z00 = some r) : C_u83 yield_40 yield_50 yield_110 yield_120 z00 r := by
  refine CC.of (fn := Tryz.f172) (by kernel_rfl) (by kernel_rfl) (by kernel_rfl) (by kernel_rfl) ?_
  unfold f_u83 at h
  exact go (mkK [ke_u0 k]) [] cs_u83 [.autoB [] true [4, 6]] (gC h 1 ((ev_u83 k yield_40 yield_50 yield_110 yield_120 z00 k).1 _ _ _ _)) (by kernel_rfl)
theorem cc_u83 {k : Nat} {yield_40 : List (I).T} {yield_50 : Int} {yield_110 : List (T21).T} {yield_120 : List (T21).T} {z00 : List (T2).T} (h : (f_u83 k yield_40 yield_50 yield_110 yield_120 z00).isSome = true) : C_u83 yield_40 yield_50 yield_110 yield_120 z00 (v_u83 k yield_40 yield_50 yield_110 yield_120 z00) := ccG (Φ := C_u83 yield_40 yield_50 yield_110 yield_120 z00) h (of_u83 k yield_40 yield_50 yield_110 yield_120 z00)
abbrev R_u80 : Type := Int
def res_u80 (r : R_u80) : AV := .r (.v (.int .i64 r))
def bo_u80 (s_ : T2.T) (r : R_u80) : List (Nat × Blk) := []
def args_u80 (s_ : T2.T) : List AV := [.agg (rvs (enc T2 s_))]
def bin_u80 (s_ : T2.T) : List Blk := []
abbrev C_u80 (s_ : T2.T) (r : R_u80) : Prop := CC Tryz.prog 123 (args_u80 s_) (bin_u80 s_) (res_u80 r) (bo_u80 s_ r)
def f_u80 (k : Nat) (s_ : T2.T) : Option R_u80 :=
  bif (decide (s_.1 < (0 : Int)) || decide (s_.1 ≥ s_.2.1) || decide (s_.2.1 > (17179869184 : Int))) then
  some 1
  else
  bif (decide (s_.2.2.1 < (1 : Int)) || decide (s_.2.2.1 > (3 : Int))) then
  some 17
  else
  bif (decide (s_.2.2.2.1 < (-1 : Int)) || decide (s_.2.2.2.1 ≥ (16 : Int))) then
  some 22
  else
  bif (decide (s_.2.2.2.2 < (0 : Int)) || decide (s_.2.2.2.2 > (2048 : Int))) then
  some 1
  else
  some 0
def v_u80 (k : Nat) (s_ : T2.T) : R_u80 := (f_u80 k s_).getD 0
def ke_u80 (k : Nat) : Ke := (123, fun xs => match xs with
  | [_] => some [false]
  | _ => none, fun xs bs => match xs, bs with
  | [.agg qs_], [] => (decS [] T2 qs_).bind fun s_ => some (.one (res_u80 (v_u80 k s_), bo_u80 s_ (v_u80 k s_)))
  | _, _ => none)
theorem of_u80 (k : Nat) (s_ : T2.T) (r : R_u80) (h : f_u80 k s_ = some r) : C_u80 s_ r := by
  refine CC.of (fn := Tryz.f123) (by kernel_rfl) (by kernel_rfl) (by kernel_rfl) (by kernel_rfl) ?_
  unfold f_u80 at h
  exact go (mkK []) [] [] [.autoB [2] true []] (gT h (fun c h => gL h) fun c h => gT h (fun c h => gL h) fun c h => gT h (fun c h => gL h) fun c h => gT h (fun c h => gL h) fun c h => gL h) (by kernel_rfl)
theorem cc_u80 {k : Nat} {s_ : T2.T} (h : (f_u80 k s_).isSome = true) : C_u80 s_ (v_u80 k s_) := ccG (Φ := C_u80 s_) h (of_u80 k s_)
abbrev R_u76 : Type := Int
def res_u76 (r : R_u76) : AV := .r (.v (.int .i64 r))
def bo_u76 (l_ : List (T2).T) (r : R_u76) : List (Nat × Blk) := []
def args_u76 (l_ : List (T2).T) : List AV := [.r (.ro T2 l_)]
def bin_u76 (l_ : List (T2).T) : List Blk := []
abbrev C_u76 (l_ : List (T2).T) (r : R_u76) : Prop := CC Tryz.prog 79 (args_u76 l_) (bin_u76 l_) (res_u76 r) (bo_u76 l_ r)
def st_u76_4 (y0 : List (T2).T) (y1 : List (T2).T) (y2 : Int) (y3 : Int) : St := ⟨mkS 46 [(0, .r (.ro T2 y0)), (13, .r (.ro T2 y1)), (14, .r (.v (.int .i64 y2))), (15, .r (.v (.int .i64 y3)))], []⟩
def st_u76_12 (y0 : Int) (y1 : Int) (y2 : List (T2).T) (y3 : Int) (y4 : Int) : St := ⟨mkS 46 [(6, .r (.v (.int .i64 y0))), (7, .r (.v (.int .i64 y1))), (25, .r (.ro T2 y2)), (26, .r (.v (.int .i64 y3))), (27, .r (.v (.int .i64 y4)))], []⟩
mutual
def f_u76_4 (k : Nat) : Nat → List (T2).T → List (T2).T → Int → Int → Option R_u76
  | 0, _, _, _, _ => none
  | j + 1, y0, y1, y2, y3 =>
  bif (decide (y3 < y2)) then
  if (0 ≤ y3) ∧ (y3 < (↑y1.length : Int)) then
  if ((f_u80 k (y1.getD y3.toNat T2.dflt)).isSome = true) then
  bif (v_u80 k (y1.getD y3.toNat T2.dflt) != (0 : Int)) then
  some (v_u80 k (y1.getD y3.toNat T2.dflt))
  else
  f_u76_4 k j y0 y1 y2 ((IntKind.i64.wrap (y3 + 1)))
  else none
  else none
  else
  f_u76_12 k j 0 0 y0 ((↑y0.length : Int)) 0
def f_u76_12 (k : Nat) : Nat → Int → Int → List (T2).T → Int → Int → Option R_u76
  | 0, _, _, _, _, _ => none
  | j + 1, y0, y1, y2, y3, y4 =>
  bif (decide (y4 < y3)) then
  if (0 ≤ y4) ∧ (y4 < (↑y2.length : Int)) then
  bif ((y2.getD y4.toNat T2.dflt).1 != y0 || decide ((y2.getD y4.toNat T2.dflt).2.2.2.2 < y1)) then
  some 9
  else
  f_u76_12 k j ((y2.getD y4.toNat T2.dflt).2.1) ((y2.getD y4.toNat T2.dflt).2.2.2.2) y2 y3 ((IntKind.i64.wrap (y4 + 1)))
  else none
  else
  some 0
end
def f_u76 (k : Nat) (l_ : List (T2).T) : Option R_u76 :=
  bif (decide ((↑l_.length : Int) > (512 : Int))) then
  some 8
  else
  f_u76_4 k k l_ l_ ((↑l_.length : Int)) 0
def v_u76 (k : Nat) (l_ : List (T2).T) : R_u76 := (f_u76 k l_).getD 0
def ke_u76 (k : Nat) : Ke := (79, fun xs => match xs with
  | [_] => some [false]
  | _ => none, fun xs bs => match xs, bs with
  | [.r (.ro tl__ ql_)], [] => (castL tl__ T2 ql_).bind fun l_ => some (.one (res_u76 (v_u76 k l_), bo_u76 l_ (v_u76 k l_)))
  | _, _ => none)
def cs_u76 : List (Nat × List Cmd) := [(4, [.autoB [0, 13, 14, 15] false []]), (12, [.autoB [6, 7, 25, 26, 27] false []])]
abbrev E_u76 (l_ : List (T2).T) (todo : List Item) (st : St) (o : Option R_u76) : Prop := ∀ r, o = some r → Ev Tryz.prog Tryz.f79 0 todo st (res_u76 r) (bo_u76 l_ r)
theorem ev_u76 (k : Nat) (l_ : List (T2).T) : ∀ j, (∀ (y0 : List (T2).T) (y1 : List (T2).T) (y2 : Int) (y3 : Int), E_u76 l_ (placeAt Tryz.f79 4) (st_u76_4 y0 y1 y2 y3) (f_u76_4 k j y0 y1 y2 y3)) ∧ (∀ (y0 : Int) (y1 : Int) (y2 : List (T2).T) (y3 : Int) (y4 : Int), E_u76 l_ (placeAt Tryz.f79 12) (st_u76_12 y0 y1 y2 y3 y4) (f_u76_12 k j y0 y1 y2 y3 y4))
  | 0 => ⟨fun _ _ _ _ _ h => (nomatch h), fun _ _ _ _ _ _ h => (nomatch h)⟩
  | j + 1 => by
    have ih := @ev_u76 k l_ j
    refine ⟨?_, ?_⟩
    · intro y0 y1 y2 y3 r h
      rw [f_u76_4] at h
      exact go (mkK [ke_u80 k]) [] cs_u76 [.autoB [2] true []] (gT h (fun c h => gN2 h fun h => gN1 h (fun q => cc_u80 q) fun h => gT h (fun c h => gL h) fun c h => gC h 4 (ih.1 _ _ _ _ _)) fun c h => gC h 12 (ih.2 _ _ _ _ _ _)) (by kernel_rfl)
    · intro y0 y1 y2 y3 y4 r h
      rw [f_u76_12] at h
      exact go (mkK [ke_u80 k]) [] cs_u76 [.autoB [2] true []] (gT h (fun c h => gN2 h fun h => gT h (fun c h => gL h) fun c h => gC h 12 (ih.2 _ _ _ _ _ _)) fun c h => gL h) (by kernel_rfl)
theorem of_u76 (k : Nat) (l_ : List (T2).T) (r : R_u76) (h : f_u76 k l_ = some r) : C_u76 l_ r := by
  refine CC.of (fn := Tryz.f79) (by kernel_rfl) (by kernel_rfl) (by kernel_rfl) (by kernel_rfl) ?_
  unfold f_u76 at h
  exact go (mkK [ke_u80 k]) [] cs_u76 [.autoB [2] true []] (gT h (fun c h => gL h) fun c h => gC h 4 ((ev_u76 k l_ k).1 _ _ _ _ _)) (by kernel_rfl)
theorem cc_u76 {k : Nat} {l_ : List (T2).T} (h : (f_u76 k l_).isSome = true) : C_u76 l_ (v_u76 k l_) := ccG (Φ := C_u76 l_) h (of_u76 k l_)
abbrev R_u79 : Type := List (T2).T × Int
def res_u79 (r : R_u79) : AV := .tup [.r (.ro T2 r.1), .r (.v (.int .i64 r.2))]
def bo_u79 (l_ : List (T2).T) (s_ : T21.T) (r : R_u79) : List (Nat × Blk) := []
def args_u79 (l_ : List (T2).T) (s_ : T21.T) : List AV := [.r (.ro T2 l_), .agg (rvs (enc T21 s_))]
def bin_u79 (l_ : List (T2).T) (s_ : T21.T) : List Blk := []
abbrev C_u79 (l_ : List (T2).T) (s_ : T21.T) (r : R_u79) : Prop := CC Tryz.prog 80 (args_u79 l_ s_) (bin_u79 l_ s_) (res_u79 r) (bo_u79 l_ s_ r)
def st_u79_11 (y0 : List (T2).T) (y1 : Int) (y2 : Int) (y3 : T21.T) (y4 : List (T2).T) : St := ⟨mkS 77 [(3, .ptr 1000000 0 0), (8, .own 1000001 0), (42, .r (.ro T2 y0)), (43, .r (.v (.int .i64 y1))), (44, .r (.v (.int .i64 y2)))], [(1000000, 0, .var 91 (rvs (enc T21 y3))), (1000001, 0, .row 87 T2 y4)]⟩
def f_u79_11 (k : Nat) : Nat → List (T2).T → Int → Int → T21.T → List (T2).T → Option R_u79
  | 0, _, _, _, _, _ => none
  | j + 1, y0, y1, y2, y3, y4 =>
  bif (decide (y2 < y1)) then
  if (0 ≤ y2) ∧ (y2 < (↑y0.length : Int)) then
  bif (decide (IntKind.i64.wrap ((if y3.1 > (y0.getD y2.toNat T2.dflt).1 then y3.1 else (y0.getD y2.toNat T2.dflt).1) - y3.1) < IntKind.i64.wrap ((if y3.2 < (y0.getD y2.toNat T2.dflt).2.1 then y3.2 else (y0.getD y2.toNat T2.dflt).2.1) - y3.1))) then
  if ((y4.length + [(IntKind.i64.wrap ((if y3.1 > (y0.getD y2.toNat T2.dflt).1 then y3.1 else (y0.getD y2.toNat T2.dflt).1) - y3.1), IntKind.i64.wrap ((if y3.2 < (y0.getD y2.toNat T2.dflt).2.1 then y3.2 else (y0.getD y2.toNat T2.dflt).2.1) - y3.1), (y0.getD y2.toNat T2.dflt).2.2)].length) * (40 : Nat) ≤ (140737488355328 : Nat)) then
  f_u79_11 k j y0 y1 ((IntKind.i64.wrap (y2 + 1))) y3 ((y4 ++ [(IntKind.i64.wrap ((if y3.1 > (y0.getD y2.toNat T2.dflt).1 then y3.1 else (y0.getD y2.toNat T2.dflt).1) - y3.1), IntKind.i64.wrap ((if y3.2 < (y0.getD y2.toNat T2.dflt).2.1 then y3.2 else (y0.getD y2.toNat T2.dflt).2.1) - y3.1), (y0.getD y2.toNat T2.dflt).2.2)]))
  else none
  else
  f_u79_11 k j y0 y1 ((IntKind.i64.wrap (y2 + 1))) y3 y4
  else none
  else
  some ((y4, 0))
def f_u79 (k : Nat) (l_ : List (T2).T) (s_ : T21.T) : Option R_u79 :=
  if ((f_u76 k l_).isSome = true) then
  bif (v_u76 k l_ != (0 : Int)) then
  some (([], v_u76 k l_))
  else
  bif (decide ((↑l_.length : Int) > (0 : Int))) then
  if ((0 : Int) ≤ IntKind.i64.wrap ((↑l_.length : Int) - (1 : Int))) ∧ (IntKind.i64.wrap ((↑l_.length : Int) - (1 : Int)) < (↑l_.length : Int)) then
  bif (decide (s_.1 < (0 : Int)) || decide (s_.1 > s_.2) || decide (s_.2 > (l_.getD (IntKind.i64.wrap ((↑l_.length : Int) - (1 : Int))).toNat T2.dflt).2.1)) then
  some (([], 1))
  else
  f_u79_11 k k l_ ((↑l_.length : Int)) 0 s_ ([])
  else none
  else
  bif (decide (s_.1 < (0 : Int)) || decide (s_.1 > s_.2) || decide (s_.2 > (0 : Int))) then
  some (([], 1))
  else
  f_u79_11 k k l_ ((↑l_.length : Int)) 0 s_ ([])
  else none
def v_u79 (k : Nat) (l_ : List (T2).T) (s_ : T21.T) : R_u79 := (f_u79 k l_ s_).getD ([], 0)
def ke_u79 (k : Nat) : Ke := (80, fun xs => match xs with
  | [_, _] => some [false, false]
  | _ => none, fun xs bs => match xs, bs with
  | [.r (.ro tl__ ql_), .agg qs_], [] => (castL tl__ T2 ql_).bind fun l_ => (decS [] T21 qs_).bind fun s_ => some (.one (res_u79 (v_u79 k l_ s_), bo_u79 l_ s_ (v_u79 k l_ s_)))
  | _, _ => none)
def cs_u79 : List (Nat × List Cmd) := [(11, [.row 8 87 T2, .autoB [3, 8, 42, 43, 44] false []])]
abbrev E_u79 (l_ : List (T2).T) (s_ : T21.T) (todo : List Item) (st : St) (o : Option R_u79) : Prop := ∀ r, o = some r → Ev Tryz.prog Tryz.f80 0 todo st (res_u79 r) (bo_u79 l_ s_ r)
theorem ev_u79 (k : Nat) (l_ : List (T2).T) (s_ : T21.T) : ∀ j, (∀ (y0 : List (T2).T) (y1 : Int) (y2 : Int) (y3 : T21.T) (y4 : List (T2).T), E_u79 l_ s_ (placeAt Tryz.f80 11) (st_u79_11 y0 y1 y2 y3 y4) (f_u79_11 k j y0 y1 y2 y3 y4))
  | 0 => fun _ _ _ _ _ _ h => (nomatch h)
  | j + 1 => by
    have ih := @ev_u79 k l_ s_ j
    · intro y0 y1 y2 y3 y4 r h
      rw [f_u79_11] at h
      exact go (mkK [ke_u76 k]) [] cs_u79 [.frz 4 false (RTy.list T2), .autoB [4, 5] true []] (gT h (fun c h => gN2 h fun h => gT h (fun c h => gN1 h id fun h => gC h 11 (ih _ _ _ _ _ _)) fun c h => gC h 11 (ih _ _ _ _ _ _)) fun c h => gL h) (by kernel_rfl)
theorem of_u79 (k : Nat) (l_ : List (T2).T) (s_ : T21.T) (r : R_u79) (h : f_u79 k l_ s_ = some r) : C_u79 l_ s_ r := by
  refine CC.of (fn := Tryz.f80) (by kernel_rfl) (by kernel_rfl) (by kernel_rfl) (by kernel_rfl) ?_
  unfold f_u79 at h
  exact go (mkK [ke_u76 k]) [] cs_u79 [.frz 4 false (RTy.list T2), .autoB [4, 5] true []] (gN1 h (fun q => cc_u76 q) fun h => gT h (fun c h => gL h) fun c h => gT h (fun c h => gN2 h fun h => gT h (fun c h => gL h) fun c h => gC h 11 ((ev_u79 k l_ s_ k) _ _ _ _ _ _)) fun c h => gT h (fun c h => gL h) fun c h => gC h 11 ((ev_u79 k l_ s_ k) _ _ _ _ _ _)) (by kernel_rfl)
theorem cc_u79 {k : Nat} {l_ : List (T2).T} {s_ : T21.T} (h : (f_u79 k l_ s_).isSome = true) : C_u79 l_ s_ (v_u79 k l_ s_) := ccG (Φ := C_u79 l_ s_) h (of_u79 k l_ s_)
end
end Go.AM
namespace Go.AM
open Go Go.Proofs
noncomputable section
end
/-! ### sections -/
abbrev Sec := Int × Int × Int × Int × Int   -- From, To, Kind, Grade, Phase
structure SecOk (s : Sec) : Prop where
  f : 0 ≤ s.1
  ft : s.1 < s.2.1
  t : s.2.1 ≤ 17179869184
  p : 0 ≤ s.2.2.2.2
end Go.AM
namespace Go.AM
open Go Go.Proofs
noncomputable section
abbrev R_u82 : Type := List (T2).T
def res_u82 (r : R_u82) : AV := .fn ((Fn.func 172)) [] [.ptr 0 0 0]
def bo_u82 (l_ : List (T2).T) (r : R_u82) : List (Nat × Blk) := [(0, .var 24 [.r (.ro T2 r)])]
def args_u82 (l_ : List (T2).T) : List AV := [.r (.ro T2 l_)]
def bin_u82 (l_ : List (T2).T) : List Blk := []
abbrev C_u82 (l_ : List (T2).T) (r : R_u82) : Prop := CC Tryz.prog 125 (args_u82 l_) (bin_u82 l_) (res_u82 r) (bo_u82 l_ r)
def f_u82 (k : Nat) (l_ : List (T2).T) : Option R_u82 :=
  some l_
def v_u82 (k : Nat) (l_ : List (T2).T) : R_u82 := (f_u82 k l_).getD []
def ke_u82 (k : Nat) : Ke := (125, fun xs => match xs with
  | [_] => some [false]
  | _ => none, fun xs bs => match xs, bs with
  | [.r (.ro tl__ ql_)], [] => (castL tl__ T2 ql_).bind fun l_ => some (.one (res_u82 (v_u82 k l_), bo_u82 l_ (v_u82 k l_)))
  | _, _ => none)
theorem of_u82 (k : Nat) (l_ : List (T2).T) (r : R_u82) (h : f_u82 k l_ = some r) : C_u82 l_ r := by
  refine CC.of (fn := Tryz.f125) (by kernel_rfl) (by kernel_rfl) (by kernel_rfl) (by kernel_rfl) ?_
  unfold f_u82 at h
  exact go (mkK []) [] [] [.autoB [2] true []] (gL h) (by kernel_rfl)
theorem cc_u82 {k : Nat} {l_ : List (T2).T} (h : (f_u82 k l_).isSome = true) : C_u82 l_ (v_u82 k l_) := ccG (Φ := C_u82 l_) h (of_u82 k l_)
abbrev R_u77 : Type := List (T21).T × List (T21).T × Int
def res_u77 (r : R_u77) : AV := .tup [.r (.ro T21 r.1), .r (.ro T21 r.2.1), .r (.v (.int .i64 r.2.2))]
def bo_u77 (l_ : List (T2).T) (turns_ : List (I).T) (least_ : Int) (r : R_u77) : List (Nat × Blk) := []
def args_u77 (l_ : List (T2).T) (turns_ : List (I).T) (least_ : Int) : List AV := [.r (.ro T2 l_), .r (.ro I turns_), .r (.v (.int .i64 least_))]
def bin_u77 (l_ : List (T2).T) (turns_ : List (I).T) (least_ : Int) : List Blk := []
abbrev C_u77 (l_ : List (T2).T) (turns_ : List (I).T) (least_ : Int) (r : R_u77) : Prop := CC Tryz.prog 81 (args_u77 l_ turns_ least_) (bin_u77 l_ turns_ least_) (res_u77 r) (bo_u77 l_ turns_ least_ r)
def f_u77 (k : Nat) (l_ : List (T2).T) (turns_ : List (I).T) (least_ : Int) : Option R_u77 :=
  if ((f_u76 k l_).isSome = true) then
  bif (v_u76 k l_ != (0 : Int)) then
  some (([], [], v_u76 k l_))
  else
  bif (decide (least_ < (1 : Int)) || decide (least_ > (17179869184 : Int))) then
  some (([], [], 1))
  else
  if ((f_u81 k turns_).isSome = true) then
  bif (v_u81 k turns_ != (0 : Int)) then
  some (([], [], v_u81 k turns_))
  else
  if ((f_u82 k l_).isSome = true) then
  if ((f_u83 k turns_ least_ [] [] (v_u82 k l_)).isSome = true) then
  some (((v_u83 k turns_ least_ [] [] (v_u82 k l_)).1, (v_u83 k turns_ least_ [] [] (v_u82 k l_)).2, 0))
  else none
  else none
  else none
  else none
def v_u77 (k : Nat) (l_ : List (T2).T) (turns_ : List (I).T) (least_ : Int) : R_u77 := (f_u77 k l_ turns_ least_).getD ([], [], 0)
def ke_u77 (k : Nat) : Ke := (81, fun xs => match xs with
  | [_, _, _] => some [false, false, false]
  | _ => none, fun xs bs => match xs, bs with
  | [.r (.ro tl__ ql_), .r (.ro tturns__ qturns_), .r (.v (.int .i64 least_))], [] => (castL tl__ T2 ql_).bind fun l_ => (castL tturns__ I qturns_).bind fun turns_ => some (.one (res_u77 (v_u77 k l_ turns_ least_), bo_u77 l_ turns_ least_ (v_u77 k l_ turns_ least_)))
  | _, _ => none)
theorem of_u77 (k : Nat) (l_ : List (T2).T) (turns_ : List (I).T) (least_ : Int) (r : R_u77) (h : f_u77 k l_ turns_ least_ = some r) : C_u77 l_ turns_ least_ r := by
  refine CC.of (fn := Tryz.f81) (by kernel_rfl) (by kernel_rfl) (by kernel_rfl) (by kernel_rfl) ?_
  unfold f_u77 at h
  exact go (mkK [ke_u76 k, ke_u81 k, ke_u82 k, ke_u78 k, ke_u83 k]) [] [(15, [.autoB [13, 15, 40, 41, 42] false []])] [.frz 6 false (RTy.list T21), .frz 7 false (RTy.list T21), .autoB [6, 7, 8] true []] (gN1 h (fun q => cc_u76 q) fun h => gT h (fun c h => gL h) fun c h => gT h (fun c h => gL h) fun c h => gN1 h (fun q => cc_u81 q) fun h => gT h (fun c h => gL h) fun c h => gN1 h (fun q => cc_u82 q) fun h => gN1 h (fun q => cc_u83 q) fun h => gL h) (by kernel_rfl)
theorem cc_u77 {k : Nat} {l_ : List (T2).T} {turns_ : List (I).T} {least_ : Int} (h : (f_u77 k l_ turns_ least_).isSome = true) : C_u77 l_ turns_ least_ (v_u77 k l_ turns_ least_) := ccG (Φ := C_u77 l_ turns_ least_) h (of_u77 k l_ turns_ least_)
abbrev R_u45 : Type := Bool
def res_u45 (r : R_u45) : AV := .r (.v (.bool r))
def bo_u45 (b_ : T17.T) (r : R_u45) : List (Nat × Blk) := []
def args_u45 (b_ : T17.T) : List AV := [.agg (rvs (enc T17 b_))]
def bin_u45 (b_ : T17.T) : List Blk := []
abbrev C_u45 (b_ : T17.T) (r : R_u45) : Prop := CC Tryz.prog 11 (args_u45 b_) (bin_u45 b_) (res_u45 r) (bo_u45 b_ r)
def st_u45_4 (y0 : Int) (y1 : List (T9).T) (y2 : Int) (y3 : Int) (y4 : T17.T) : St := ⟨mkS 105 [(1, .ptr 1000000 0 0), (3, .r (.v (.int .i64 y0))), (60, .r (.ro T9 y1)), (61, .r (.v (.int .i64 y2))), (62, .r (.v (.int .i64 y3)))], [(1000000, 0, .var 36 (rvs (enc T17 y4)))]⟩
def st_u45_9 (y0 : Int) (y1 : List (T11).T) (y2 : Int) (y3 : Int) (y4 : T17.T) : St := ⟨mkS 105 [(1, .ptr 1000000 0 0), (3, .r (.v (.int .i64 y0))), (76, .r (.ro T11 y1)), (77, .r (.v (.int .i64 y2))), (78, .r (.v (.int .i64 y3)))], [(1000000, 0, .var 36 (rvs (enc T17 y4)))]⟩
def st_u45_14 (y0 : Int) (y1 : List (T5).T) (y2 : Int) (y3 : Int) : St := ⟨mkS 105 [(3, .r (.v (.int .i64 y0))), (89, .r (.ro T5 y1)), (90, .r (.v (.int .i64 y2))), (91, .r (.v (.int .i64 y3)))], []⟩
mutual
def f_u45_4 (k : Nat) : Nat → Int → List (T9).T → Int → Int → T17.T → Option R_u45
  | 0, _, _, _, _, _ => none
  | j + 1, y0, y1, y2, y3, y4 =>
  bif (decide (y3 < y2)) then
  if (0 ≤ y3) ∧ (y3 < (↑y1.length : Int)) then
  f_u45_4 k j ((imx (imx y0 (↑ (List.length (y1.getD y3.toNat T9.dflt).2.1) : Int)) (↑ (List.length (y1.getD y3.toNat T9.dflt).2.2.1) : Int))) y1 y2 ((IntKind.i64.wrap (y3 + 1))) y4
  else none
  else
  f_u45_9 k j y0 y4.2.2.2.2.2.2.2.2.2.2.2.2.2.2.2.2.2.1 ((↑ (List.length y4.2.2.2.2.2.2.2.2.2.2.2.2.2.2.2.2.2.1) : Int)) 0 y4
def f_u45_9 (k : Nat) : Nat → Int → List (T11).T → Int → Int → T17.T → Option R_u45
  | 0, _, _, _, _, _ => none
  | j + 1, y0, y1, y2, y3, y4 =>
  bif (decide (y3 < y2)) then
  if (0 ≤ y3) ∧ (y3 < (↑y1.length : Int)) then
  f_u45_9 k j ((if (↑ (List.length (y1.getD y3.toNat T11.dflt).2.2) : Int) > y0 then (↑ (List.length (y1.getD y3.toNat T11.dflt).2.2) : Int) else y0)) y1 y2 ((IntKind.i64.wrap (y3 + 1))) y4
  else none
  else
  f_u45_14 k j y0 y4.2.2.2.2.2.2.2.2.2.2.2.1 ((↑ (List.length y4.2.2.2.2.2.2.2.2.2.2.2.1) : Int)) 0
def f_u45_14 (k : Nat) : Nat → Int → List (T5).T → Int → Int → Option R_u45
  | 0, _, _, _, _ => none
  | j + 1, y0, y1, y2, y3 =>
  bif (decide (y3 < y2)) then
  if (0 ≤ y3) ∧ (y3 < (↑y1.length : Int)) then
  f_u45_14 k j ((if IntKind.i64.wrap (2 * (↑ (List.length (y1.getD y3.toNat T5.dflt).2.2.2.2.2) : Int)) > y0 then IntKind.i64.wrap (2 * (↑ (List.length (y1.getD y3.toNat T5.dflt).2.2.2.2.2) : Int)) else y0)) y1 y2 ((IntKind.i64.wrap (y3 + 1)))
  else none
  else
  some (decide (y0 > 40))
end
def f_u45 (k : Nat) (b_ : T17.T) : Option R_u45 :=
  if ((4 : Int) ≠ (0 : Int)) then
  f_u45_4 k (k + (List.length b_.2.2.2.2.2.2.2.2.2.2.2.2.2.2.2.1 + (List.length b_.2.2.2.2.2.2.2.2.2.2.2.2.2.2.2.2.2.1 + List.length b_.2.2.2.2.2.2.2.2.2.2.2.1))) ((imx (imx (imx (imx (imx (imx (imx (imx (imx (imx (imx (imx (imx (imx (↑ (List.length b_.2.2.2.2.2.2.2.1) : Int) (↑ (List.length b_.2.2.2.2.2.2.2.2.2.1) : Int)) (↑ (List.length b_.2.2.2.2.2.2.2.2.2.2.1) : Int)) (↑ (List.length b_.2.2.2.2.2.2.2.2.2.2.2.1) : Int)) (↑ (List.length b_.2.2.2.2.2.2.2.2.2.2.2.2.1) : Int)) (↑ (List.length b_.2.2.2.2.2.2.2.2.2.2.2.2.2.1) : Int)) (↑ (List.length b_.2.2.2.2.2.2.2.2.2.2.2.2.2.2.1) : Int)) (IntKind.i64.wrap ((↑ (List.length b_.2.2.2.2.2.2.2.2.1) : Int).tdiv 4))) (↑ (List.length b_.2.2.2.2.2.2.2.2.2.2.2.2.2.2.2.1) : Int)) (↑ (List.length b_.2.2.2.2.2.2.2.2.2.2.2.2.2.2.2.2.1) : Int)) (↑ (List.length b_.2.2.2.2.2.2.2.2.2.2.2.2.2.2.2.2.2.1) : Int)) (↑ (List.length b_.2.2.2.2.2.2.2.2.2.2.2.2.2.2.2.2.2.2.1) : Int)) (↑ (List.length b_.2.2.2.2.2.2.2.2.2.2.2.2.2.2.2.2.2.2.2.1) : Int)) (↑ (List.length b_.2.2.2.2.2.2.2.2.2.2.2.2.2.2.2.2.2.2.2.2.1) : Int)) (↑ (List.length b_.2.2.2.2.2.2.2.2.2.2.2.2.2.2.2.2.2.2.2.2.2) : Int))) b_.2.2.2.2.2.2.2.2.2.2.2.2.2.2.2.1 ((↑ (List.length b_.2.2.2.2.2.2.2.2.2.2.2.2.2.2.2.1) : Int)) 0 b_
  else none
def v_u45 (k : Nat) (b_ : T17.T) : R_u45 := (f_u45 k b_).getD false
def ke_u45 (k : Nat) : Ke := (11, fun xs => match xs with
  | [_] => some [false]
  | _ => none, fun xs bs => match xs, bs with
  | [.agg qb_], [] => (decS [] T17 qb_).bind fun b_ => some (.one (res_u45 (v_u45 k b_), bo_u45 b_ (v_u45 k b_)))
  | _, _ => none)
def cs_u45 : List (Nat × List Cmd) := [(4, [.autoB [1, 3, 60, 61, 62] false []]), (9, [.autoB [1, 3, 76, 77, 78] false []]), (14, [.autoB [3, 89, 90, 91] false []])]
abbrev E_u45 (b_ : T17.T) (todo : List Item) (st : St) (o : Option R_u45) : Prop := ∀ r, o = some r → Ev Tryz.prog Tryz.f11 0 todo st (res_u45 r) (bo_u45 b_ r)
theorem ev_u45 (k : Nat) (b_ : T17.T) : ∀ j, (∀ (y0 : Int) (y1 : List (T9).T) (y2 : Int) (y3 : Int) (y4 : T17.T), E_u45 b_ (placeAt Tryz.f11 4) (st_u45_4 y0 y1 y2 y3 y4) (f_u45_4 k j y0 y1 y2 y3 y4)) ∧ (∀ (y0 : Int) (y1 : List (T11).T) (y2 : Int) (y3 : Int) (y4 : T17.T), E_u45 b_ (placeAt Tryz.f11 9) (st_u45_9 y0 y1 y2 y3 y4) (f_u45_9 k j y0 y1 y2 y3 y4)) ∧ (∀ (y0 : Int) (y1 : List (T5).T) (y2 : Int) (y3 : Int), E_u45 b_ (placeAt Tryz.f11 14) (st_u45_14 y0 y1 y2 y3) (f_u45_14 k j y0 y1 y2 y3))
  | 0 => ⟨fun _ _ _ _ _ _ h => (nomatch h), fun _ _ _ _ _ _ h => (nomatch h), fun _ _ _ _ _ h => (nomatch h)⟩
  | j + 1 => by
    have ih := @ev_u45 k b_ j
    refine ⟨?_, ?_, ?_⟩
    · intro y0 y1 y2 y3 y4 r h
      rw [f_u45_4] at h
      exact go (mkK []) [] cs_u45 [.autoB [2] true []] (gT h (fun c h => gN2 h fun h => gC h 4 (ih.1 _ _ _ _ _ _)) fun c h => gC h 9 (ih.2.1 _ _ _ _ _ _)) (by kernel_rfl)
    · intro y0 y1 y2 y3 y4 r h
      rw [f_u45_9] at h
      exact go (mkK []) [] cs_u45 [.autoB [2] true []] (gT h (fun c h => gN2 h fun h => gC h 9 (ih.2.1 _ _ _ _ _ _)) fun c h => gC h 14 (ih.2.2 _ _ _ _ _)) (by kernel_rfl)
    · intro y0 y1 y2 y3 r h
      rw [f_u45_14] at h
      exact go (mkK []) [] cs_u45 [.autoB [2] true []] (gT h (fun c h => gN2 h fun h => gC h 14 (ih.2.2 _ _ _ _ _)) fun c h => gL h) (by kernel_rfl)
theorem of_u45 (k : Nat) (b_ : T17.T) (r : R_u45) (h : f_u45 k b_ = some r) : C_u45 b_ r := by
  refine CC.of (fn := Tryz.f11) (by kernel_rfl) (by kernel_rfl) (by kernel_rfl) (by kernel_rfl) ?_
  unfold f_u45 at h
  exact go (mkK []) [] cs_u45 [.autoB [2] true []] (gN1 h id fun h => gC h 4 ((ev_u45 k b_ (k + (List.length b_.2.2.2.2.2.2.2.2.2.2.2.2.2.2.2.1 + (List.length b_.2.2.2.2.2.2.2.2.2.2.2.2.2.2.2.2.2.1 + List.length b_.2.2.2.2.2.2.2.2.2.2.2.1)))).1 _ _ _ _ _ _)) (by kernel_rfl)
theorem cc_u45 {k : Nat} {b_ : T17.T} (h : (f_u45 k b_).isSome = true) : C_u45 b_ (v_u45 k b_) := ccG (Φ := C_u45 b_) h (of_u45 k b_)
end
end Go.AM
namespace Go.AM
open Go Go.Proofs
noncomputable section
abbrev R_u17 : Type := Bool
def res_u17 (r : R_u17) : AV := .r (.v (.bool r))
def bo_u17 (b_ : T17.T) (r : R_u17) : List (Nat × Blk) := []
def args_u17 (b_ : T17.T) : List AV := [.agg (rvs (enc T17 b_))]
def bin_u17 (b_ : T17.T) : List Blk := []
abbrev C_u17 (b_ : T17.T) (r : R_u17) : Prop := CC Tryz.prog 74 (args_u17 b_) (bin_u17 b_) (res_u17 r) (bo_u17 b_ r)
def st_u17_3 (y0 : List (T9).T) (y1 : Int) (y2 : Int) (y3 : T17.T) (y4 : List (I).T) : St := ⟨mkS 96 [(1, .ptr 1000000 0 0), (3, .own 1000001 0), (57, .r (.ro T9 y0)), (58, .r (.v (.int .i64 y1))), (59, .r (.v (.int .i64 y2)))], [(1000000, 0, .var 36 (rvs (enc T17 y3))), (1000001, 0, .row 3 I y4)]⟩
def st_u17_8 (y0 : List (T11).T) (y1 : Int) (y2 : Int) (y3 : List (I).T) : St := ⟨mkS 96 [(3, .own 1000000 0), (74, .r (.ro T11 y0)), (75, .r (.v (.int .i64 y1))), (76, .r (.v (.int .i64 y2)))], [(1000000, 0, .row 3 I y3)]⟩
def st_u17_13 (y0 : Int) (y1 : Int) (y2 : List (I).T) : St := ⟨mkS 96 [(87, .own 1000000 0), (88, .r (.v (.int .i64 y0))), (89, .r (.v (.int .i64 y1)))], [(1000000, 0, .row 3 I y2)]⟩
mutual
def f_u17_3 (k : Nat) : Nat → List (T9).T → Int → Int → T17.T → List (I).T → Option R_u17
  | 0, _, _, _, _, _ => none
  | j + 1, y0, y1, y2, y3, y4 =>
  bif (decide (y2 < y1)) then
  if (0 ≤ y2) ∧ (y2 < (↑y0.length : Int)) then
  if ((y4.length + [(↑ (List.length (y0.getD y2.toNat T9.dflt).2.1) : Int), (↑ (List.length (y0.getD y2.toNat T9.dflt).2.2.1) : Int)].length) * (8 : Nat) ≤ (140737488355328 : Nat)) then
  f_u17_3 k j y0 y1 ((IntKind.i64.wrap (y2 + 1))) y3 ((y4 ++ [(↑ (List.length (y0.getD y2.toNat T9.dflt).2.1) : Int), (↑ (List.length (y0.getD y2.toNat T9.dflt).2.2.1) : Int)]))
  else none
  else none
  else
  f_u17_8 k j y3.2.2.2.2.2.2.2.2.2.2.2.2.2.2.2.2.2.1 ((↑ (List.length y3.2.2.2.2.2.2.2.2.2.2.2.2.2.2.2.2.2.1) : Int)) 0 y4
def f_u17_8 (k : Nat) : Nat → List (T11).T → Int → Int → List (I).T → Option R_u17
  | 0, _, _, _, _ => none
  | j + 1, y0, y1, y2, y3 =>
  bif (decide (y2 < y1)) then
  if (0 ≤ y2) ∧ (y2 < (↑y0.length : Int)) then
  if ((y3.length + [(↑ (List.length (y0.getD y2.toNat T11.dflt).2.2) : Int)].length) * (8 : Nat) ≤ (140737488355328 : Nat)) then
  f_u17_8 k j y0 y1 ((IntKind.i64.wrap (y2 + 1))) ((y3 ++ [(↑ (List.length (y0.getD y2.toNat T11.dflt).2.2) : Int)]))
  else none
  else none
  else
  f_u17_13 k j ((↑y3.length : Int)) 0 y3
def f_u17_13 (k : Nat) : Nat → Int → Int → List (I).T → Option R_u17
  | 0, _, _, _ => none
  | j + 1, y0, y1, y2 =>
  bif (decide (y1 < y0)) then
  if (0 ≤ y1) ∧ (y1 < (↑y2.length : Int)) then
  bif (decide (y2.getD y1.toNat I.dflt > (512 : Int))) then
  some true
  else
  f_u17_13 k j y0 ((IntKind.i64.wrap (y1 + 1))) y2
  else none
  else
  some false
end
def f_u17 (k : Nat) (b_ : T17.T) : Option R_u17 :=
  f_u17_3 k k b_.2.2.2.2.2.2.2.2.2.2.2.2.2.2.2.1 ((↑ (List.length b_.2.2.2.2.2.2.2.2.2.2.2.2.2.2.2.1) : Int)) 0 b_ ([(↑ (List.length b_.2.2.2.2.2.2.2.1) : Int), (↑ (List.length b_.2.2.2.2.2.2.2.2.1) : Int), (↑ (List.length b_.2.2.2.2.2.2.2.2.2.1) : Int), (↑ (List.length b_.2.2.2.2.2.2.2.2.2.2.1) : Int), (↑ (List.length b_.2.2.2.2.2.2.2.2.2.2.2.1) : Int), (↑ (List.length b_.2.2.2.2.2.2.2.2.2.2.2.2.1) : Int), (↑ (List.length b_.2.2.2.2.2.2.2.2.2.2.2.2.2.1) : Int), (↑ (List.length b_.2.2.2.2.2.2.2.2.2.2.2.2.2.2.1) : Int), (↑ (List.length b_.2.2.2.2.2.2.2.2.2.2.2.2.2.2.2.1) : Int), (↑ (List.length b_.2.2.2.2.2.2.2.2.2.2.2.2.2.2.2.2.1) : Int), (↑ (List.length b_.2.2.2.2.2.2.2.2.2.2.2.2.2.2.2.2.2.1) : Int), (↑ (List.length b_.2.2.2.2.2.2.2.2.2.2.2.2.2.2.2.2.2.2.1) : Int), (↑ (List.length b_.2.2.2.2.2.2.2.2.2.2.2.2.2.2.2.2.2.2.2.1) : Int), (↑ (List.length b_.2.2.2.2.2.2.2.2.2.2.2.2.2.2.2.2.2.2.2.2.1) : Int), (↑ (List.length b_.2.2.2.2.2.2.2.2.2.2.2.2.2.2.2.2.2.2.2.2.2) : Int)])
def v_u17 (k : Nat) (b_ : T17.T) : R_u17 := (f_u17 k b_).getD false
def ke_u17 (k : Nat) : Ke := (74, fun xs => match xs with
  | [_] => some [false]
  | _ => none, fun xs bs => match xs, bs with
  | [.agg qb_], [] => (decS [] T17 qb_).bind fun b_ => some (.one (res_u17 (v_u17 k b_), bo_u17 b_ (v_u17 k b_)))
  | _, _ => none)
def cs_u17 : List (Nat × List Cmd) := [(3, [.autoB [1, 3, 57, 58, 59] false []]), (8, [.autoB [3, 74, 75, 76] false []]), (13, [.autoB [87, 88, 89] false []])]
abbrev E_u17 (b_ : T17.T) (todo : List Item) (st : St) (o : Option R_u17) : Prop := ∀ r, o = some r → Ev Tryz.prog Tryz.f74 0 todo st (res_u17 r) (bo_u17 b_ r)
theorem ev_u17 (k : Nat) (b_ : T17.T) : ∀ j, (∀ (y0 : List (T9).T) (y1 : Int) (y2 : Int) (y3 : T17.T) (y4 : List (I).T), E_u17 b_ (placeAt Tryz.f74 3) (st_u17_3 y0 y1 y2 y3 y4) (f_u17_3 k j y0 y1 y2 y3 y4)) ∧ (∀ (y0 : List (T11).T) (y1 : Int) (y2 : Int) (y3 : List (I).T), E_u17 b_ (placeAt Tryz.f74 8) (st_u17_8 y0 y1 y2 y3) (f_u17_8 k j y0 y1 y2 y3)) ∧ (∀ (y0 : Int) (y1 : Int) (y2 : List (I).T), E_u17 b_ (placeAt Tryz.f74 13) (st_u17_13 y0 y1 y2) (f_u17_13 k j y0 y1 y2))
  | 0 => ⟨fun _ _ _ _ _ _ h => (nomatch h), fun _ _ _ _ _ h => (nomatch h), fun _ _ _ _ h => (nomatch h)⟩
  | j + 1 => by
    have ih := @ev_u17 k b_ j
    refine ⟨?_, ?_, ?_⟩
    · intro y0 y1 y2 y3 y4 r h
      rw [f_u17_3] at h
      exact go (mkK []) [] cs_u17 [.autoB [2] true []] (gT h (fun c h => gN2 h fun h => gN1 h id fun h => gC h 3 (ih.1 _ _ _ _ _ _)) fun c h => gC h 8 (ih.2.1 _ _ _ _ _)) (by kernel_rfl)
    · intro y0 y1 y2 y3 r h
      rw [f_u17_8] at h
      exact go (mkK []) [] cs_u17 [.autoB [2] true []] (gT h (fun c h => gN2 h fun h => gN1 h id fun h => gC h 8 (ih.2.1 _ _ _ _ _)) fun c h => gC h 13 (ih.2.2 _ _ _ _)) (by kernel_rfl)
    · intro y0 y1 y2 r h
      rw [f_u17_13] at h
      exact go (mkK []) [] cs_u17 [.autoB [2] true []] (gT h (fun c h => gN2 h fun h => gT h (fun c h => gL h) fun c h => gC h 13 (ih.2.2 _ _ _ _)) fun c h => gL h) (by kernel_rfl)
theorem of_u17 (k : Nat) (b_ : T17.T) (r : R_u17) (h : f_u17 k b_ = some r) : C_u17 b_ r := by
  refine CC.of (fn := Tryz.f74) (by kernel_rfl) (by kernel_rfl) (by kernel_rfl) (by kernel_rfl) ?_
  unfold f_u17 at h
  exact go (mkK []) [] cs_u17 [.autoB [2] true []] (gC h 3 ((ev_u17 k b_ k).1 _ _ _ _ _ _)) (by kernel_rfl)
theorem cc_u17 {k : Nat} {b_ : T17.T} (h : (f_u17 k b_).isSome = true) : C_u17 b_ (v_u17 k b_) := ccG (Φ := C_u17 b_) h (of_u17 k b_)

end
/-! ### books that are not too long -/
theorem imx_l (a b : Int) : a ≤ imx a b := by unfold imx; split <;> omega
theorem imx_r (a b : Int) : b ≤ imx a b := by unfold imx; split <;> omega
structure GB (b : T17.T) : Prop where
  bGrades : b.2.2.2.2.2.2.2.1.length ≤ 40
  bSections : b.2.2.2.2.2.2.2.2.2.1.length ≤ 40
  bTurns : b.2.2.2.2.2.2.2.2.2.2.1.length ≤ 40
  bRolls : b.2.2.2.2.2.2.2.2.2.2.2.1.length ≤ 40
  bUsed : b.2.2.2.2.2.2.2.2.2.2.2.2.1.length ≤ 40
  bScrapped : b.2.2.2.2.2.2.2.2.2.2.2.2.2.1.length ≤ 40
  bSpots : b.2.2.2.2.2.2.2.2.2.2.2.2.2.2.1.length ≤ 40
  bOrders : b.2.2.2.2.2.2.2.2.2.2.2.2.2.2.2.1.length ≤ 40
  bWaivers : b.2.2.2.2.2.2.2.2.2.2.2.2.2.2.2.2.1.length ≤ 40
  bShipments : b.2.2.2.2.2.2.2.2.2.2.2.2.2.2.2.2.2.1.length ≤ 40
  bClaims : b.2.2.2.2.2.2.2.2.2.2.2.2.2.2.2.2.2.2.1.length ≤ 40
  bCredits : b.2.2.2.2.2.2.2.2.2.2.2.2.2.2.2.2.2.2.2.1.length ≤ 40
  bBroke : b.2.2.2.2.2.2.2.2.2.2.2.2.2.2.2.2.2.2.2.2.1.length ≤ 40
  bPostings : b.2.2.2.2.2.2.2.2.2.2.2.2.2.2.2.2.2.2.2.2.2.length ≤ 40
  supp : b.2.2.2.2.2.2.2.2.1.length ≤ 200
  ord : ∀ x ∈ b.2.2.2.2.2.2.2.2.2.2.2.2.2.2.2.1, x.2.1.length ≤ 40 ∧ x.2.2.1.length ≤ 40
  shp : ∀ x ∈ b.2.2.2.2.2.2.2.2.2.2.2.2.2.2.2.2.2.1, x.2.2.length ≤ 40
theorem great_14 (k : Nat) (l : List T5.T) (hl : l.length ≤ 140737488351232) : ∀ (d i j : Nat) (y : Int), i + d = l.length → d < j →
    ∃ n : Int, f_u45_14 k j y l (l.length : Int) (i : Int) = some (decide (n > 40)) ∧ y ≤ n := by
  intro d
  induction d with
  | zero =>
    intro i j y hi hj
    obtain ⟨j, rfl⟩ : ∃ q, j = q + 1 := ⟨j - 1, by omega⟩
    refine ⟨y, ?_, Int.le_refl _⟩
    rw [f_u45_14, decide_eq_false (by omega : ¬ (i : Int) < (l.length : Int)), cond_false]
  | succ d ih =>
    intro i j y hi hj
    obtain ⟨j, rfl⟩ : ∃ q, j = q + 1 := ⟨j - 1, by omega⟩
    rw [f_u45_14, decide_eq_true (by omega : (i : Int) < (l.length : Int)), cond_true, if_pos ⟨by omega, by omega⟩, wrapS i (by omega)]
    generalize IntKind.i64.wrap (2 * _) = z
    obtain ⟨n, h1, h2⟩ := ih (i + 1) j (if z > y then z else y) (by omega) (by omega)
    refine ⟨n, h1, ?_⟩
    revert h2
    split <;> omega
theorem great_9 (k : Nat) (b : T17.T) (hr : b.2.2.2.2.2.2.2.2.2.2.2.1.length ≤ 140737488351232) (l : List T11.T) (hl : l.length ≤ 140737488351232) : ∀ (d i j : Nat) (y : Int), i + d = l.length → d + 1 + b.2.2.2.2.2.2.2.2.2.2.2.1.length < j →
    ∃ n : Int, f_u45_9 k j y l (l.length : Int) (i : Int) b = some (decide (n > 40)) ∧ y ≤ n ∧ ∀ x ∈ l.drop i, (x.2.2.length : Int) ≤ n := by
  intro d
  induction d with
  | zero =>
    intro i j y hi hj
    obtain ⟨j, rfl⟩ : ∃ q, j = q + 1 := ⟨j - 1, by omega⟩
    rw [f_u45_9, decide_eq_false (by omega : ¬ (i : Int) < (l.length : Int)), cond_false, List.drop_of_length_le (by omega)]
    obtain ⟨n, h1, h2⟩ := great_14 k (b.2.2.2.2.2.2.2.2.2.2.2.1) hr (b.2.2.2.2.2.2.2.2.2.2.2.1.length) 0 j y (by omega) (by omega)
    exact ⟨n, h1, h2, fun x hx => by simp at hx⟩
  | succ d ih =>
    intro i j y hi hj
    obtain ⟨j, rfl⟩ : ∃ q, j = q + 1 := ⟨j - 1, by omega⟩
    rw [f_u45_9, decide_eq_true (by omega : (i : Int) < (l.length : Int)), cond_true, if_pos ⟨by omega, by omega⟩, wrapS i (by omega), Int.toNat_natCast, drop_cons' l i T11.dflt (by omega)]
    obtain ⟨n, h1, h2, h3⟩ := ih (i + 1) j (if ((l.getD i T11.dflt).2.2.length : Int) > y then ((l.getD i T11.dflt).2.2.length : Int) else y) (by omega) (by omega)
    refine ⟨n, h1, ?_, fun x hx => ?_⟩
    · revert h2; split <;> omega
    · rcases List.mem_cons.1 hx with e | hx
      · rw [e]; revert h2; split <;> omega
      · exact h3 x hx
theorem great_4 (k : Nat) (b : T17.T) (hr : b.2.2.2.2.2.2.2.2.2.2.2.1.length ≤ 140737488351232) (hs : b.2.2.2.2.2.2.2.2.2.2.2.2.2.2.2.2.2.1.length ≤ 140737488351232) (l : List T9.T) (hl : l.length ≤ 140737488351232) : ∀ (d i j : Nat) (y : Int), i + d = l.length → d + 2 + (b.2.2.2.2.2.2.2.2.2.2.2.2.2.2.2.2.2.1.length + b.2.2.2.2.2.2.2.2.2.2.2.1.length) < j →
    ∃ n : Int, f_u45_4 k j y l (l.length : Int) (i : Int) b = some (decide (n > 40)) ∧ y ≤ n ∧ (∀ x ∈ b.2.2.2.2.2.2.2.2.2.2.2.2.2.2.2.2.2.1, (x.2.2.length : Int) ≤ n) ∧ ∀ x ∈ l.drop i, (x.2.1.length : Int) ≤ n ∧ (x.2.2.1.length : Int) ≤ n := by
  intro d
  induction d with
  | zero =>
    intro i j y hi hj
    obtain ⟨j, rfl⟩ : ∃ q, j = q + 1 := ⟨j - 1, by omega⟩
    rw [f_u45_4, decide_eq_false (by omega : ¬ (i : Int) < (l.length : Int)), cond_false, List.drop_of_length_le (by omega)]
    obtain ⟨n, h1, h2, h3⟩ := great_9 k b hr (b.2.2.2.2.2.2.2.2.2.2.2.2.2.2.2.2.2.1) hs (b.2.2.2.2.2.2.2.2.2.2.2.2.2.2.2.2.2.1.length) 0 j y (by omega) (by omega)
    rw [List.drop_zero] at h3
    exact ⟨n, h1, h2, h3, fun x hx => by simp at hx⟩
  | succ d ih =>
    intro i j y hi hj
    obtain ⟨j, rfl⟩ : ∃ q, j = q + 1 := ⟨j - 1, by omega⟩
    rw [f_u45_4, decide_eq_true (by omega : (i : Int) < (l.length : Int)), cond_true, if_pos ⟨by omega, by omega⟩, wrapS i (by omega), Int.toNat_natCast, drop_cons' l i T9.dflt (by omega)]
    obtain ⟨n, h1, h2, h3, h4⟩ := ih (i + 1) j (imx (imx y ((l.getD i T9.dflt).2.1.length : Int)) ((l.getD i T9.dflt).2.2.1.length : Int)) (by omega) (by omega)
    have a1 := imx_l (imx y ((l.getD i T9.dflt).2.1.length : Int)) ((l.getD i T9.dflt).2.2.1.length : Int)
    have a2 := imx_r (imx y ((l.getD i T9.dflt).2.1.length : Int)) ((l.getD i T9.dflt).2.2.1.length : Int)
    have a3 := imx_l y ((l.getD i T9.dflt).2.1.length : Int)
    have a4 := imx_r y ((l.getD i T9.dflt).2.1.length : Int)
    refine ⟨n, h1, by omega, h3, fun x hx => ?_⟩
    rcases List.mem_cons.1 hx with e | hx
    · rw [e]; exact ⟨by omega, by omega⟩
    · exact h4 x hx
theorem great_s (k : Nat) (hk : 100 ≤ k) (b : T17.T) (h1 : b.2.2.2.2.2.2.2.2.2.2.2.2.2.2.2.1.length ≤ 140737488351232) (h2 : b.2.2.2.2.2.2.2.2.2.2.2.2.2.2.2.2.2.1.length ≤ 140737488351232) (h3 : b.2.2.2.2.2.2.2.2.2.2.2.1.length ≤ 140737488351232) (h4 : b.2.2.2.2.2.2.2.2.1.length ≤ 140737488351232) :
    ∃ r : Bool, f_u45 k b = some r ∧ (r = false → GB b) := by
  unfold f_u45
  rw [if_pos (by decide)]
  have hw : IntKind.i64.wrap (((b.2.2.2.2.2.2.2.2.1.length : Nat) : Int).tdiv 4) = ((b.2.2.2.2.2.2.2.2.1.length : Nat) : Int) / 4 := by
    rw [Int.tdiv_eq_ediv_of_nonneg (by omega)]; exact wrap_id (by omega) (by omega)
  obtain ⟨n, g1, g2, g3, g4⟩ := great_4 k b h3 h2 (b.2.2.2.2.2.2.2.2.2.2.2.2.2.2.2.1) h1 (b.2.2.2.2.2.2.2.2.2.2.2.2.2.2.2.1.length) 0 (k + (b.2.2.2.2.2.2.2.2.2.2.2.2.2.2.2.1.length + (b.2.2.2.2.2.2.2.2.2.2.2.2.2.2.2.2.2.1.length + b.2.2.2.2.2.2.2.2.2.2.2.1.length))) (imx (imx (imx (imx (imx (imx (imx (imx (imx (imx (imx (imx (imx (imx (((b.2.2.2.2.2.2.2.1.length : Nat) : Int)) (((b.2.2.2.2.2.2.2.2.2.1.length : Nat) : Int))) (((b.2.2.2.2.2.2.2.2.2.2.1.length : Nat) : Int))) (((b.2.2.2.2.2.2.2.2.2.2.2.1.length : Nat) : Int))) (((b.2.2.2.2.2.2.2.2.2.2.2.2.1.length : Nat) : Int))) (((b.2.2.2.2.2.2.2.2.2.2.2.2.2.1.length : Nat) : Int))) (((b.2.2.2.2.2.2.2.2.2.2.2.2.2.2.1.length : Nat) : Int))) (IntKind.i64.wrap (((b.2.2.2.2.2.2.2.2.1.length : Nat) : Int).tdiv 4))) (((b.2.2.2.2.2.2.2.2.2.2.2.2.2.2.2.1.length : Nat) : Int))) (((b.2.2.2.2.2.2.2.2.2.2.2.2.2.2.2.2.1.length : Nat) : Int))) (((b.2.2.2.2.2.2.2.2.2.2.2.2.2.2.2.2.2.1.length : Nat) : Int))) (((b.2.2.2.2.2.2.2.2.2.2.2.2.2.2.2.2.2.2.1.length : Nat) : Int))) (((b.2.2.2.2.2.2.2.2.2.2.2.2.2.2.2.2.2.2.2.1.length : Nat) : Int))) (((b.2.2.2.2.2.2.2.2.2.2.2.2.2.2.2.2.2.2.2.2.1.length : Nat) : Int))) (((b.2.2.2.2.2.2.2.2.2.2.2.2.2.2.2.2.2.2.2.2.2.length : Nat) : Int))) (by omega) (by omega)
  rw [List.drop_zero] at g4
  refine ⟨_, g1, fun hr => ?_⟩
  have hn : n ≤ 40 := by
    have := of_decide_eq_false hr
    omega
  have p1 := imx_l (((b.2.2.2.2.2.2.2.1.length : Nat) : Int)) (((b.2.2.2.2.2.2.2.2.2.1.length : Nat) : Int))
  have e1 := imx_r (((b.2.2.2.2.2.2.2.1.length : Nat) : Int)) (((b.2.2.2.2.2.2.2.2.2.1.length : Nat) : Int))
  have p2 := imx_l (imx (((b.2.2.2.2.2.2.2.1.length : Nat) : Int)) (((b.2.2.2.2.2.2.2.2.2.1.length : Nat) : Int))) (((b.2.2.2.2.2.2.2.2.2.2.1.length : Nat) : Int))
  have e2 := imx_r (imx (((b.2.2.2.2.2.2.2.1.length : Nat) : Int)) (((b.2.2.2.2.2.2.2.2.2.1.length : Nat) : Int))) (((b.2.2.2.2.2.2.2.2.2.2.1.length : Nat) : Int))
  have p3 := imx_l (imx (imx (((b.2.2.2.2.2.2.2.1.length : Nat) : Int)) (((b.2.2.2.2.2.2.2.2.2.1.length : Nat) : Int))) (((b.2.2.2.2.2.2.2.2.2.2.1.length : Nat) : Int))) (((b.2.2.2.2.2.2.2.2.2.2.2.1.length : Nat) : Int))
  have e3 := imx_r (imx (imx (((b.2.2.2.2.2.2.2.1.length : Nat) : Int)) (((b.2.2.2.2.2.2.2.2.2.1.length : Nat) : Int))) (((b.2.2.2.2.2.2.2.2.2.2.1.length : Nat) : Int))) (((b.2.2.2.2.2.2.2.2.2.2.2.1.length : Nat) : Int))
  have p4 := imx_l (imx (imx (imx (((b.2.2.2.2.2.2.2.1.length : Nat) : Int)) (((b.2.2.2.2.2.2.2.2.2.1.length : Nat) : Int))) (((b.2.2.2.2.2.2.2.2.2.2.1.length : Nat) : Int))) (((b.2.2.2.2.2.2.2.2.2.2.2.1.length : Nat) : Int))) (((b.2.2.2.2.2.2.2.2.2.2.2.2.1.length : Nat) : Int))
  have e4 := imx_r (imx (imx (imx (((b.2.2.2.2.2.2.2.1.length : Nat) : Int)) (((b.2.2.2.2.2.2.2.2.2.1.length : Nat) : Int))) (((b.2.2.2.2.2.2.2.2.2.2.1.length : Nat) : Int))) (((b.2.2.2.2.2.2.2.2.2.2.2.1.length : Nat) : Int))) (((b.2.2.2.2.2.2.2.2.2.2.2.2.1.length : Nat) : Int))
  have p5 := imx_l (imx (imx (imx (imx (((b.2.2.2.2.2.2.2.1.length : Nat) : Int)) (((b.2.2.2.2.2.2.2.2.2.1.length : Nat) : Int))) (((b.2.2.2.2.2.2.2.2.2.2.1.length : Nat) : Int))) (((b.2.2.2.2.2.2.2.2.2.2.2.1.length : Nat) : Int))) (((b.2.2.2.2.2.2.2.2.2.2.2.2.1.length : Nat) : Int))) (((b.2.2.2.2.2.2.2.2.2.2.2.2.2.1.length : Nat) : Int))
  have e5 := imx_r (imx (imx (imx (imx (((b.2.2.2.2.2.2.2.1.length : Nat) : Int)) (((b.2.2.2.2.2.2.2.2.2.1.length : Nat) : Int))) (((b.2.2.2.2.2.2.2.2.2.2.1.length : Nat) : Int))) (((b.2.2.2.2.2.2.2.2.2.2.2.1.length : Nat) : Int))) (((b.2.2.2.2.2.2.2.2.2.2.2.2.1.length : Nat) : Int))) (((b.2.2.2.2.2.2.2.2.2.2.2.2.2.1.length : Nat) : Int))
  have p6 := imx_l (imx (imx (imx (imx (imx (((b.2.2.2.2.2.2.2.1.length : Nat) : Int)) (((b.2.2.2.2.2.2.2.2.2.1.length : Nat) : Int))) (((b.2.2.2.2.2.2.2.2.2.2.1.length : Nat) : Int))) (((b.2.2.2.2.2.2.2.2.2.2.2.1.length : Nat) : Int))) (((b.2.2.2.2.2.2.2.2.2.2.2.2.1.length : Nat) : Int))) (((b.2.2.2.2.2.2.2.2.2.2.2.2.2.1.length : Nat) : Int))) (((b.2.2.2.2.2.2.2.2.2.2.2.2.2.2.1.length : Nat) : Int))
  have e6 := imx_r (imx (imx (imx (imx (imx (((b.2.2.2.2.2.2.2.1.length : Nat) : Int)) (((b.2.2.2.2.2.2.2.2.2.1.length : Nat) : Int))) (((b.2.2.2.2.2.2.2.2.2.2.1.length : Nat) : Int))) (((b.2.2.2.2.2.2.2.2.2.2.2.1.length : Nat) : Int))) (((b.2.2.2.2.2.2.2.2.2.2.2.2.1.length : Nat) : Int))) (((b.2.2.2.2.2.2.2.2.2.2.2.2.2.1.length : Nat) : Int))) (((b.2.2.2.2.2.2.2.2.2.2.2.2.2.2.1.length : Nat) : Int))
  have p7 := imx_l (imx (imx (imx (imx (imx (imx (((b.2.2.2.2.2.2.2.1.length : Nat) : Int)) (((b.2.2.2.2.2.2.2.2.2.1.length : Nat) : Int))) (((b.2.2.2.2.2.2.2.2.2.2.1.length : Nat) : Int))) (((b.2.2.2.2.2.2.2.2.2.2.2.1.length : Nat) : Int))) (((b.2.2.2.2.2.2.2.2.2.2.2.2.1.length : Nat) : Int))) (((b.2.2.2.2.2.2.2.2.2.2.2.2.2.1.length : Nat) : Int))) (((b.2.2.2.2.2.2.2.2.2.2.2.2.2.2.1.length : Nat) : Int))) (IntKind.i64.wrap (((b.2.2.2.2.2.2.2.2.1.length : Nat) : Int).tdiv 4))
  have e7 := imx_r (imx (imx (imx (imx (imx (imx (((b.2.2.2.2.2.2.2.1.length : Nat) : Int)) (((b.2.2.2.2.2.2.2.2.2.1.length : Nat) : Int))) (((b.2.2.2.2.2.2.2.2.2.2.1.length : Nat) : Int))) (((b.2.2.2.2.2.2.2.2.2.2.2.1.length : Nat) : Int))) (((b.2.2.2.2.2.2.2.2.2.2.2.2.1.length : Nat) : Int))) (((b.2.2.2.2.2.2.2.2.2.2.2.2.2.1.length : Nat) : Int))) (((b.2.2.2.2.2.2.2.2.2.2.2.2.2.2.1.length : Nat) : Int))) (IntKind.i64.wrap (((b.2.2.2.2.2.2.2.2.1.length : Nat) : Int).tdiv 4))
  have p8 := imx_l (imx (imx (imx (imx (imx (imx (imx (((b.2.2.2.2.2.2.2.1.length : Nat) : Int)) (((b.2.2.2.2.2.2.2.2.2.1.length : Nat) : Int))) (((b.2.2.2.2.2.2.2.2.2.2.1.length : Nat) : Int))) (((b.2.2.2.2.2.2.2.2.2.2.2.1.length : Nat) : Int))) (((b.2.2.2.2.2.2.2.2.2.2.2.2.1.length : Nat) : Int))) (((b.2.2.2.2.2.2.2.2.2.2.2.2.2.1.length : Nat) : Int))) (((b.2.2.2.2.2.2.2.2.2.2.2.2.2.2.1.length : Nat) : Int))) (IntKind.i64.wrap (((b.2.2.2.2.2.2.2.2.1.length : Nat) : Int).tdiv 4))) (((b.2.2.2.2.2.2.2.2.2.2.2.2.2.2.2.1.length : Nat) : Int))
  have e8 := imx_r (imx (imx (imx (imx (imx (imx (imx (((b.2.2.2.2.2.2.2.1.length : Nat) : Int)) (((b.2.2.2.2.2.2.2.2.2.1.length : Nat) : Int))) (((b.2.2.2.2.2.2.2.2.2.2.1.length : Nat) : Int))) (((b.2.2.2.2.2.2.2.2.2.2.2.1.length : Nat) : Int))) (((b.2.2.2.2.2.2.2.2.2.2.2.2.1.length : Nat) : Int))) (((b.2.2.2.2.2.2.2.2.2.2.2.2.2.1.length : Nat) : Int))) (((b.2.2.2.2.2.2.2.2.2.2.2.2.2.2.1.length : Nat) : Int))) (IntKind.i64.wrap (((b.2.2.2.2.2.2.2.2.1.length : Nat) : Int).tdiv 4))) (((b.2.2.2.2.2.2.2.2.2.2.2.2.2.2.2.1.length : Nat) : Int))
  have p9 := imx_l (imx (imx (imx (imx (imx (imx (imx (imx (((b.2.2.2.2.2.2.2.1.length : Nat) : Int)) (((b.2.2.2.2.2.2.2.2.2.1.length : Nat) : Int))) (((b.2.2.2.2.2.2.2.2.2.2.1.length : Nat) : Int))) (((b.2.2.2.2.2.2.2.2.2.2.2.1.length : Nat) : Int))) (((b.2.2.2.2.2.2.2.2.2.2.2.2.1.length : Nat) : Int))) (((b.2.2.2.2.2.2.2.2.2.2.2.2.2.1.length : Nat) : Int))) (((b.2.2.2.2.2.2.2.2.2.2.2.2.2.2.1.length : Nat) : Int))) (IntKind.i64.wrap (((b.2.2.2.2.2.2.2.2.1.length : Nat) : Int).tdiv 4))) (((b.2.2.2.2.2.2.2.2.2.2.2.2.2.2.2.1.length : Nat) : Int))) (((b.2.2.2.2.2.2.2.2.2.2.2.2.2.2.2.2.1.length : Nat) : Int))
  have e9 := imx_r (imx (imx (imx (imx (imx (imx (imx (imx (((b.2.2.2.2.2.2.2.1.length : Nat) : Int)) (((b.2.2.2.2.2.2.2.2.2.1.length : Nat) : Int))) (((b.2.2.2.2.2.2.2.2.2.2.1.length : Nat) : Int))) (((b.2.2.2.2.2.2.2.2.2.2.2.1.length : Nat) : Int))) (((b.2.2.2.2.2.2.2.2.2.2.2.2.1.length : Nat) : Int))) (((b.2.2.2.2.2.2.2.2.2.2.2.2.2.1.length : Nat) : Int))) (((b.2.2.2.2.2.2.2.2.2.2.2.2.2.2.1.length : Nat) : Int))) (IntKind.i64.wrap (((b.2.2.2.2.2.2.2.2.1.length : Nat) : Int).tdiv 4))) (((b.2.2.2.2.2.2.2.2.2.2.2.2.2.2.2.1.length : Nat) : Int))) (((b.2.2.2.2.2.2.2.2.2.2.2.2.2.2.2.2.1.length : Nat) : Int))
  have p10 := imx_l (imx (imx (imx (imx (imx (imx (imx (imx (imx (((b.2.2.2.2.2.2.2.1.length : Nat) : Int)) (((b.2.2.2.2.2.2.2.2.2.1.length : Nat) : Int))) (((b.2.2.2.2.2.2.2.2.2.2.1.length : Nat) : Int))) (((b.2.2.2.2.2.2.2.2.2.2.2.1.length : Nat) : Int))) (((b.2.2.2.2.2.2.2.2.2.2.2.2.1.length : Nat) : Int))) (((b.2.2.2.2.2.2.2.2.2.2.2.2.2.1.length : Nat) : Int))) (((b.2.2.2.2.2.2.2.2.2.2.2.2.2.2.1.length : Nat) : Int))) (IntKind.i64.wrap (((b.2.2.2.2.2.2.2.2.1.length : Nat) : Int).tdiv 4))) (((b.2.2.2.2.2.2.2.2.2.2.2.2.2.2.2.1.length : Nat) : Int))) (((b.2.2.2.2.2.2.2.2.2.2.2.2.2.2.2.2.1.length : Nat) : Int))) (((b.2.2.2.2.2.2.2.2.2.2.2.2.2.2.2.2.2.1.length : Nat) : Int))
  have e10 := imx_r (imx (imx (imx (imx (imx (imx (imx (imx (imx (((b.2.2.2.2.2.2.2.1.length : Nat) : Int)) (((b.2.2.2.2.2.2.2.2.2.1.length : Nat) : Int))) (((b.2.2.2.2.2.2.2.2.2.2.1.length : Nat) : Int))) (((b.2.2.2.2.2.2.2.2.2.2.2.1.length : Nat) : Int))) (((b.2.2.2.2.2.2.2.2.2.2.2.2.1.length : Nat) : Int))) (((b.2.2.2.2.2.2.2.2.2.2.2.2.2.1.length : Nat) : Int))) (((b.2.2.2.2.2.2.2.2.2.2.2.2.2.2.1.length : Nat) : Int))) (IntKind.i64.wrap (((b.2.2.2.2.2.2.2.2.1.length : Nat) : Int).tdiv 4))) (((b.2.2.2.2.2.2.2.2.2.2.2.2.2.2.2.1.length : Nat) : Int))) (((b.2.2.2.2.2.2.2.2.2.2.2.2.2.2.2.2.1.length : Nat) : Int))) (((b.2.2.2.2.2.2.2.2.2.2.2.2.2.2.2.2.2.1.length : Nat) : Int))
  have p11 := imx_l (imx (imx (imx (imx (imx (imx (imx (imx (imx (imx (((b.2.2.2.2.2.2.2.1.length : Nat) : Int)) (((b.2.2.2.2.2.2.2.2.2.1.length : Nat) : Int))) (((b.2.2.2.2.2.2.2.2.2.2.1.length : Nat) : Int))) (((b.2.2.2.2.2.2.2.2.2.2.2.1.length : Nat) : Int))) (((b.2.2.2.2.2.2.2.2.2.2.2.2.1.length : Nat) : Int))) (((b.2.2.2.2.2.2.2.2.2.2.2.2.2.1.length : Nat) : Int))) (((b.2.2.2.2.2.2.2.2.2.2.2.2.2.2.1.length : Nat) : Int))) (IntKind.i64.wrap (((b.2.2.2.2.2.2.2.2.1.length : Nat) : Int).tdiv 4))) (((b.2.2.2.2.2.2.2.2.2.2.2.2.2.2.2.1.length : Nat) : Int))) (((b.2.2.2.2.2.2.2.2.2.2.2.2.2.2.2.2.1.length : Nat) : Int))) (((b.2.2.2.2.2.2.2.2.2.2.2.2.2.2.2.2.2.1.length : Nat) : Int))) (((b.2.2.2.2.2.2.2.2.2.2.2.2.2.2.2.2.2.2.1.length : Nat) : Int))
  have e11 := imx_r (imx (imx (imx (imx (imx (imx (imx (imx (imx (imx (((b.2.2.2.2.2.2.2.1.length : Nat) : Int)) (((b.2.2.2.2.2.2.2.2.2.1.length : Nat) : Int))) (((b.2.2.2.2.2.2.2.2.2.2.1.length : Nat) : Int))) (((b.2.2.2.2.2.2.2.2.2.2.2.1.length : Nat) : Int))) (((b.2.2.2.2.2.2.2.2.2.2.2.2.1.length : Nat) : Int))) (((b.2.2.2.2.2.2.2.2.2.2.2.2.2.1.length : Nat) : Int))) (((b.2.2.2.2.2.2.2.2.2.2.2.2.2.2.1.length : Nat) : Int))) (IntKind.i64.wrap (((b.2.2.2.2.2.2.2.2.1.length : Nat) : Int).tdiv 4))) (((b.2.2.2.2.2.2.2.2.2.2.2.2.2.2.2.1.length : Nat) : Int))) (((b.2.2.2.2.2.2.2.2.2.2.2.2.2.2.2.2.1.length : Nat) : Int))) (((b.2.2.2.2.2.2.2.2.2.2.2.2.2.2.2.2.2.1.length : Nat) : Int))) (((b.2.2.2.2.2.2.2.2.2.2.2.2.2.2.2.2.2.2.1.length : Nat) : Int))
  have p12 := imx_l (imx (imx (imx (imx (imx (imx (imx (imx (imx (imx (imx (((b.2.2.2.2.2.2.2.1.length : Nat) : Int)) (((b.2.2.2.2.2.2.2.2.2.1.length : Nat) : Int))) (((b.2.2.2.2.2.2.2.2.2.2.1.length : Nat) : Int))) (((b.2.2.2.2.2.2.2.2.2.2.2.1.length : Nat) : Int))) (((b.2.2.2.2.2.2.2.2.2.2.2.2.1.length : Nat) : Int))) (((b.2.2.2.2.2.2.2.2.2.2.2.2.2.1.length : Nat) : Int))) (((b.2.2.2.2.2.2.2.2.2.2.2.2.2.2.1.length : Nat) : Int))) (IntKind.i64.wrap (((b.2.2.2.2.2.2.2.2.1.length : Nat) : Int).tdiv 4))) (((b.2.2.2.2.2.2.2.2.2.2.2.2.2.2.2.1.length : Nat) : Int))) (((b.2.2.2.2.2.2.2.2.2.2.2.2.2.2.2.2.1.length : Nat) : Int))) (((b.2.2.2.2.2.2.2.2.2.2.2.2.2.2.2.2.2.1.length : Nat) : Int))) (((b.2.2.2.2.2.2.2.2.2.2.2.2.2.2.2.2.2.2.1.length : Nat) : Int))) (((b.2.2.2.2.2.2.2.2.2.2.2.2.2.2.2.2.2.2.2.1.length : Nat) : Int))
  have e12 := imx_r (imx (imx (imx (imx (imx (imx (imx (imx (imx (imx (imx (((b.2.2.2.2.2.2.2.1.length : Nat) : Int)) (((b.2.2.2.2.2.2.2.2.2.1.length : Nat) : Int))) (((b.2.2.2.2.2.2.2.2.2.2.1.length : Nat) : Int))) (((b.2.2.2.2.2.2.2.2.2.2.2.1.length : Nat) : Int))) (((b.2.2.2.2.2.2.2.2.2.2.2.2.1.length : Nat) : Int))) (((b.2.2.2.2.2.2.2.2.2.2.2.2.2.1.length : Nat) : Int))) (((b.2.2.2.2.2.2.2.2.2.2.2.2.2.2.1.length : Nat) : Int))) (IntKind.i64.wrap (((b.2.2.2.2.2.2.2.2.1.length : Nat) : Int).tdiv 4))) (((b.2.2.2.2.2.2.2.2.2.2.2.2.2.2.2.1.length : Nat) : Int))) (((b.2.2.2.2.2.2.2.2.2.2.2.2.2.2.2.2.1.length : Nat) : Int))) (((b.2.2.2.2.2.2.2.2.2.2.2.2.2.2.2.2.2.1.length : Nat) : Int))) (((b.2.2.2.2.2.2.2.2.2.2.2.2.2.2.2.2.2.2.1.length : Nat) : Int))) (((b.2.2.2.2.2.2.2.2.2.2.2.2.2.2.2.2.2.2.2.1.length : Nat) : Int))
  have p13 := imx_l (imx (imx (imx (imx (imx (imx (imx (imx (imx (imx (imx (imx (((b.2.2.2.2.2.2.2.1.length : Nat) : Int)) (((b.2.2.2.2.2.2.2.2.2.1.length : Nat) : Int))) (((b.2.2.2.2.2.2.2.2.2.2.1.length : Nat) : Int))) (((b.2.2.2.2.2.2.2.2.2.2.2.1.length : Nat) : Int))) (((b.2.2.2.2.2.2.2.2.2.2.2.2.1.length : Nat) : Int))) (((b.2.2.2.2.2.2.2.2.2.2.2.2.2.1.length : Nat) : Int))) (((b.2.2.2.2.2.2.2.2.2.2.2.2.2.2.1.length : Nat) : Int))) (IntKind.i64.wrap (((b.2.2.2.2.2.2.2.2.1.length : Nat) : Int).tdiv 4))) (((b.2.2.2.2.2.2.2.2.2.2.2.2.2.2.2.1.length : Nat) : Int))) (((b.2.2.2.2.2.2.2.2.2.2.2.2.2.2.2.2.1.length : Nat) : Int))) (((b.2.2.2.2.2.2.2.2.2.2.2.2.2.2.2.2.2.1.length : Nat) : Int))) (((b.2.2.2.2.2.2.2.2.2.2.2.2.2.2.2.2.2.2.1.length : Nat) : Int))) (((b.2.2.2.2.2.2.2.2.2.2.2.2.2.2.2.2.2.2.2.1.length : Nat) : Int))) (((b.2.2.2.2.2.2.2.2.2.2.2.2.2.2.2.2.2.2.2.2.1.length : Nat) : Int))
  have e13 := imx_r (imx (imx (imx (imx (imx (imx (imx (imx (imx (imx (imx (imx (((b.2.2.2.2.2.2.2.1.length : Nat) : Int)) (((b.2.2.2.2.2.2.2.2.2.1.length : Nat) : Int))) (((b.2.2.2.2.2.2.2.2.2.2.1.length : Nat) : Int))) (((b.2.2.2.2.2.2.2.2.2.2.2.1.length : Nat) : Int))) (((b.2.2.2.2.2.2.2.2.2.2.2.2.1.length : Nat) : Int))) (((b.2.2.2.2.2.2.2.2.2.2.2.2.2.1.length : Nat) : Int))) (((b.2.2.2.2.2.2.2.2.2.2.2.2.2.2.1.length : Nat) : Int))) (IntKind.i64.wrap (((b.2.2.2.2.2.2.2.2.1.length : Nat) : Int).tdiv 4))) (((b.2.2.2.2.2.2.2.2.2.2.2.2.2.2.2.1.length : Nat) : Int))) (((b.2.2.2.2.2.2.2.2.2.2.2.2.2.2.2.2.1.length : Nat) : Int))) (((b.2.2.2.2.2.2.2.2.2.2.2.2.2.2.2.2.2.1.length : Nat) : Int))) (((b.2.2.2.2.2.2.2.2.2.2.2.2.2.2.2.2.2.2.1.length : Nat) : Int))) (((b.2.2.2.2.2.2.2.2.2.2.2.2.2.2.2.2.2.2.2.1.length : Nat) : Int))) (((b.2.2.2.2.2.2.2.2.2.2.2.2.2.2.2.2.2.2.2.2.1.length : Nat) : Int))
  have p14 := imx_l (imx (imx (imx (imx (imx (imx (imx (imx (imx (imx (imx (imx (imx (((b.2.2.2.2.2.2.2.1.length : Nat) : Int)) (((b.2.2.2.2.2.2.2.2.2.1.length : Nat) : Int))) (((b.2.2.2.2.2.2.2.2.2.2.1.length : Nat) : Int))) (((b.2.2.2.2.2.2.2.2.2.2.2.1.length : Nat) : Int))) (((b.2.2.2.2.2.2.2.2.2.2.2.2.1.length : Nat) : Int))) (((b.2.2.2.2.2.2.2.2.2.2.2.2.2.1.length : Nat) : Int))) (((b.2.2.2.2.2.2.2.2.2.2.2.2.2.2.1.length : Nat) : Int))) (IntKind.i64.wrap (((b.2.2.2.2.2.2.2.2.1.length : Nat) : Int).tdiv 4))) (((b.2.2.2.2.2.2.2.2.2.2.2.2.2.2.2.1.length : Nat) : Int))) (((b.2.2.2.2.2.2.2.2.2.2.2.2.2.2.2.2.1.length : Nat) : Int))) (((b.2.2.2.2.2.2.2.2.2.2.2.2.2.2.2.2.2.1.length : Nat) : Int))) (((b.2.2.2.2.2.2.2.2.2.2.2.2.2.2.2.2.2.2.1.length : Nat) : Int))) (((b.2.2.2.2.2.2.2.2.2.2.2.2.2.2.2.2.2.2.2.1.length : Nat) : Int))) (((b.2.2.2.2.2.2.2.2.2.2.2.2.2.2.2.2.2.2.2.2.1.length : Nat) : Int))) (((b.2.2.2.2.2.2.2.2.2.2.2.2.2.2.2.2.2.2.2.2.2.length : Nat) : Int))
  have e14 := imx_r (imx (imx (imx (imx (imx (imx (imx (imx (imx (imx (imx (imx (imx (((b.2.2.2.2.2.2.2.1.length : Nat) : Int)) (((b.2.2.2.2.2.2.2.2.2.1.length : Nat) : Int))) (((b.2.2.2.2.2.2.2.2.2.2.1.length : Nat) : Int))) (((b.2.2.2.2.2.2.2.2.2.2.2.1.length : Nat) : Int))) (((b.2.2.2.2.2.2.2.2.2.2.2.2.1.length : Nat) : Int))) (((b.2.2.2.2.2.2.2.2.2.2.2.2.2.1.length : Nat) : Int))) (((b.2.2.2.2.2.2.2.2.2.2.2.2.2.2.1.length : Nat) : Int))) (IntKind.i64.wrap (((b.2.2.2.2.2.2.2.2.1.length : Nat) : Int).tdiv 4))) (((b.2.2.2.2.2.2.2.2.2.2.2.2.2.2.2.1.length : Nat) : Int))) (((b.2.2.2.2.2.2.2.2.2.2.2.2.2.2.2.2.1.length : Nat) : Int))) (((b.2.2.2.2.2.2.2.2.2.2.2.2.2.2.2.2.2.1.length : Nat) : Int))) (((b.2.2.2.2.2.2.2.2.2.2.2.2.2.2.2.2.2.2.1.length : Nat) : Int))) (((b.2.2.2.2.2.2.2.2.2.2.2.2.2.2.2.2.2.2.2.1.length : Nat) : Int))) (((b.2.2.2.2.2.2.2.2.2.2.2.2.2.2.2.2.2.2.2.2.1.length : Nat) : Int))) (((b.2.2.2.2.2.2.2.2.2.2.2.2.2.2.2.2.2.2.2.2.2.length : Nat) : Int))
  generalize hm1 : imx (((b.2.2.2.2.2.2.2.1.length : Nat) : Int)) (((b.2.2.2.2.2.2.2.2.2.1.length : Nat) : Int)) = m1 at *
  generalize hm2 : imx m1 (((b.2.2.2.2.2.2.2.2.2.2.1.length : Nat) : Int)) = m2 at *
  generalize hm3 : imx m2 (((b.2.2.2.2.2.2.2.2.2.2.2.1.length : Nat) : Int)) = m3 at *
  generalize hm4 : imx m3 (((b.2.2.2.2.2.2.2.2.2.2.2.2.1.length : Nat) : Int)) = m4 at *
  generalize hm5 : imx m4 (((b.2.2.2.2.2.2.2.2.2.2.2.2.2.1.length : Nat) : Int)) = m5 at *
  generalize hm6 : imx m5 (((b.2.2.2.2.2.2.2.2.2.2.2.2.2.2.1.length : Nat) : Int)) = m6 at *
  generalize hm7 : imx m6 (IntKind.i64.wrap (((b.2.2.2.2.2.2.2.2.1.length : Nat) : Int).tdiv 4)) = m7 at *
  generalize hm8 : imx m7 (((b.2.2.2.2.2.2.2.2.2.2.2.2.2.2.2.1.length : Nat) : Int)) = m8 at *
  generalize hm9 : imx m8 (((b.2.2.2.2.2.2.2.2.2.2.2.2.2.2.2.2.1.length : Nat) : Int)) = m9 at *
  generalize hm10 : imx m9 (((b.2.2.2.2.2.2.2.2.2.2.2.2.2.2.2.2.2.1.length : Nat) : Int)) = m10 at *
  generalize hm11 : imx m10 (((b.2.2.2.2.2.2.2.2.2.2.2.2.2.2.2.2.2.2.1.length : Nat) : Int)) = m11 at *
  generalize hm12 : imx m11 (((b.2.2.2.2.2.2.2.2.2.2.2.2.2.2.2.2.2.2.2.1.length : Nat) : Int)) = m12 at *
  generalize hm13 : imx m12 (((b.2.2.2.2.2.2.2.2.2.2.2.2.2.2.2.2.2.2.2.2.1.length : Nat) : Int)) = m13 at *
  generalize hm14 : imx m13 (((b.2.2.2.2.2.2.2.2.2.2.2.2.2.2.2.2.2.2.2.2.2.length : Nat) : Int)) = m14 at *
  rw [hw] at e7
  exact { bGrades := by omega, bSections := by omega, bTurns := by omega, bRolls := by omega, bUsed := by omega, bScrapped := by omega, bSpots := by omega, bOrders := by omega, bWaivers := by omega, bShipments := by omega, bClaims := by omega, bCredits := by omega, bBroke := by omega, bPostings := by omega, supp := by omega, ord := fun x hx => by have := g4 x hx; omega, shp := fun x hx => by have := g3 x hx; omega }

theorem full_13 (k : Nat) (l : List Int) (hl : l.length ≤ 100000) (hb : ∀ x ∈ l, x ≤ 512) : ∀ (d i j : Nat), i + d = l.length → d < j → f_u17_13 k j (l.length : Int) (i : Int) l = some false := by
  intro d
  induction d with
  | zero =>
    intro i j hi hj
    obtain ⟨j, rfl⟩ : ∃ q, j = q + 1 := ⟨j - 1, by omega⟩
    rw [f_u17_13, decide_eq_false (by omega : ¬ (i : Int) < (l.length : Int)), cond_false]
  | succ d ih =>
    intro i j hi hj
    obtain ⟨j, rfl⟩ : ∃ q, j = q + 1 := ⟨j - 1, by omega⟩
    have hx := hb (l.getD i I.dflt) (gdm _ _ _ (by omega))
    rw [f_u17_13, decide_eq_true (by omega : (i : Int) < (l.length : Int)), cond_true, if_pos ⟨by omega, by omega⟩, wrapS i (by omega), Int.toNat_natCast, decide_eq_false (by omega : ¬ l.getD i I.dflt > 512), cond_false]
    exact ih (i + 1) j (by omega) (by omega)
theorem full_8 (k : Nat) (l : List T11.T) (hl : l.length ≤ 40) (hs : ∀ x ∈ l, x.2.2.length ≤ 40) : ∀ (d i j : Nat) (a : List Int), i + d = l.length → 2 * d + a.length + 100 < j → a.length + d ≤ 1000 → (∀ x ∈ a, x ≤ 512) → f_u17_8 k j l (l.length : Int) (i : Int) a = some false := by
  intro d
  induction d with
  | zero =>
    intro i j a hi hj ha hb
    obtain ⟨j, rfl⟩ : ∃ q, j = q + 1 := ⟨j - 1, by omega⟩
    rw [f_u17_8, decide_eq_false (by omega : ¬ (i : Int) < (l.length : Int)), cond_false]
    exact full_13 k a (by omega) hb a.length 0 j (by omega) (by omega)
  | succ d ih =>
    intro i j a hi hj ha hb
    obtain ⟨j, rfl⟩ : ∃ q, j = q + 1 := ⟨j - 1, by omega⟩
    have hx := hs (l.getD i T11.dflt) (gdm _ _ _ (by omega))
    rw [f_u17_8, decide_eq_true (by omega : (i : Int) < (l.length : Int)), cond_true, if_pos ⟨by omega, by omega⟩, wrapS i (by omega), Int.toNat_natCast, if_pos (by simp only [List.length_singleton]; omega)]
    refine ih (i + 1) j _ (by omega) (by simp; omega) (by simp; omega) fun x hx' => ?_
    rcases List.mem_append.1 hx' with h | h
    · exact hb x h
    · rw [List.mem_singleton] at h; omega
theorem full_3 (k : Nat) (b : T17.T) (g : GB b) (l : List T9.T) (hl : l.length ≤ 40) (hs : ∀ x ∈ l, x.2.1.length ≤ 40 ∧ x.2.2.1.length ≤ 40) : ∀ (d i j : Nat) (a : List Int), i + d = l.length → 3 * d + a.length + 200 < j → a.length + 2 * d ≤ 500 → (∀ x ∈ a, x ≤ 512) → f_u17_3 k j l (l.length : Int) (i : Int) b a = some false := by
  intro d
  induction d with
  | zero =>
    intro i j a hi hj ha hb
    obtain ⟨j, rfl⟩ : ∃ q, j = q + 1 := ⟨j - 1, by omega⟩
    have := g.bShipments
    rw [f_u17_3, decide_eq_false (by omega : ¬ (i : Int) < (l.length : Int)), cond_false]
    exact full_8 k (b.2.2.2.2.2.2.2.2.2.2.2.2.2.2.2.2.2.1) (by omega) g.shp (b.2.2.2.2.2.2.2.2.2.2.2.2.2.2.2.2.2.1.length) 0 j a (by omega) (by omega) (by omega) hb
  | succ d ih =>
    intro i j a hi hj ha hb
    obtain ⟨j, rfl⟩ : ∃ q, j = q + 1 := ⟨j - 1, by omega⟩
    have hx := hs (l.getD i T9.dflt) (gdm _ _ _ (by omega))
    rw [f_u17_3, decide_eq_true (by omega : (i : Int) < (l.length : Int)), cond_true, if_pos ⟨by omega, by omega⟩, wrapS i (by omega), Int.toNat_natCast, if_pos (by simp only [List.length_cons, List.length_nil]; omega)]
    refine ih (i + 1) j _ (by omega) (by simp; omega) (by simp; omega) fun x hx' => ?_
    rcases List.mem_append.1 hx' with h | h
    · exact hb x h
    · simp only [List.mem_cons, List.not_mem_nil, or_false] at h
      omega
theorem full_s (k : Nat) (hk : 1000 ≤ k) (b : T17.T) (g : GB b) : f_u17 k b = some false := by
  unfold f_u17
  have bGrades := g.bGrades
  have bSections := g.bSections
  have bTurns := g.bTurns
  have bRolls := g.bRolls
  have bUsed := g.bUsed
  have bScrapped := g.bScrapped
  have bSpots := g.bSpots
  have bOrders := g.bOrders
  have bWaivers := g.bWaivers
  have bShipments := g.bShipments
  have bClaims := g.bClaims
  have bCredits := g.bCredits
  have bBroke := g.bBroke
  have bPostings := g.bPostings
  have bSup := g.supp
  refine full_3 k b g (b.2.2.2.2.2.2.2.2.2.2.2.2.2.2.2.1) (by omega) g.ord (b.2.2.2.2.2.2.2.2.2.2.2.2.2.2.2.1.length) 0 k _ (by omega) (by simp; omega) (by simp; omega) fun x hx => ?_
  simp only [List.mem_cons, List.not_mem_nil, or_false] at hx
  omega
theorem full_v (k : Nat) (hk : 1000 ≤ k) (b : T17.T) (g : GB b) : v_u17 k b = false := by
  unfold v_u17; rw [full_s k hk b g]; rfl
end Go.AM
namespace Go.AM
open Go Go.Proofs
noncomputable section
abbrev R_u11 : Type := T17.T × List (T18).T
def res_u11 (r : R_u11) : AV := .tup []
def bo_u11 (b_ : T17.T) (b_22 : List (T18).T) (kind_ : Int) (x_ : Int) (y_ : Int) (r : R_u11) : List (Nat × Blk) := [(0, .var 140 ((rvs (enc T17 r.1)) ++ [.own 1 1])), (1, .row 54 T18 r.2)]
def args_u11 (b_ : T17.T) (b_22 : List (T18).T) (kind_ : Int) (x_ : Int) (y_ : Int) : List AV := [.ptr 0 0 0, .r (.v (.int .i64 kind_)), .r (.v (.int .i64 x_)), .r (.v (.int .i64 y_))]
def bin_u11 (b_ : T17.T) (b_22 : List (T18).T) (kind_ : Int) (x_ : Int) (y_ : Int) : List Blk := [.var 140 (rvs (enc T17 b_) ++ [.own 1 0]), .row 54 T18 b_22]
abbrev C_u11 (b_ : T17.T) (b_22 : List (T18).T) (kind_ : Int) (x_ : Int) (y_ : Int) (r : R_u11) : Prop := CC Tryz.prog 75 (args_u11 b_ b_22 kind_ x_ y_) (bin_u11 b_ b_22 kind_ x_ y_) (res_u11 r) (bo_u11 b_ b_22 kind_ x_ y_ r)
def f_u11 (k : Nat) (b_ : T17.T) (b_22 : List (T18).T) (kind_ : Int) (x_ : Int) (y_ : Int) : Option R_u11 :=
  if ((b_22.length + [(kind_, x_, y_)].length) * (24 : Nat) ≤ (140737488355328 : Nat)) then
  some ((b_, b_22 ++ [(kind_, x_, y_)]))
  else none
def v_u11 (k : Nat) (b_ : T17.T) (b_22 : List (T18).T) (kind_ : Int) (x_ : Int) (y_ : Int) : R_u11 := (f_u11 k b_ b_22 kind_ x_ y_).getD ((T17).dflt, [])
def ke_u11 (k : Nat) : Ke := (75, fun xs => match xs with
  | [.ptr _ _ _, _, _, _] => some [true, false, false, false]
  | _ => none, fun xs bs => match xs, bs with
  | [.ptr 0 0 0, .r (.v (.int .i64 kind_)), .r (.v (.int .i64 x_)), .r (.v (.int .i64 y_))], [.var 140 qb_, .row 54 tb_22_ qb_22] => (decS [] T17 (qb_.take 22)).bind fun b_ => (castL tb_22_ T18 qb_22).bind fun b_22 => some (.one (res_u11 (v_u11 k b_ b_22 kind_ x_ y_), bo_u11 b_ b_22 kind_ x_ y_ (v_u11 k b_ b_22 kind_ x_ y_)))
  | _, _ => none)
theorem of_u11 (k : Nat) (b_ : T17.T) (b_22 : List (T18).T) (kind_ : Int) (x_ : Int) (y_ : Int) (r : R_u11) (h : f_u11 k b_ b_22 kind_ x_ y_ = some r) : C_u11 b_ b_22 kind_ x_ y_ r := by
  refine CC.of (fn := Tryz.f75) (by kernel_rfl) (by kernel_rfl) (by kernel_rfl) (by kernel_rfl) ?_
  unfold f_u11 at h
  exact go (mkK []) [] [] [.autoB [] true [1]] (gN1 h id fun h => gL h) (by kernel_rfl)
theorem cc_u11 {k : Nat} {b_ : T17.T} {b_22 : List (T18).T} {kind_ : Int} {x_ : Int} {y_ : Int} (h : (f_u11 k b_ b_22 kind_ x_ y_).isSome = true) : C_u11 b_ b_22 kind_ x_ y_ (v_u11 k b_ b_22 kind_ x_ y_) := ccG (Φ := C_u11 b_ b_22 kind_ x_ y_) h (of_u11 k b_ b_22 kind_ x_ y_)
abbrev R_u8 : Type := Bool
def res_u8 (r : R_u8) : AV := .r (.v (.bool r))
def bo_u8 (b_ : T17.T) (b_22 : List (T18).T) (s_ : T21.T) (c_ : T4.T) (r : R_u8) : List (Nat × Blk) := [(0, .var 140 (rvs (enc T17 b_) ++ [.own 1 0])), (0, .row 54 T18 b_22)]
def args_u8 (b_ : T17.T) (b_22 : List (T18).T) (s_ : T21.T) (c_ : T4.T) : List AV := [.ptr 0 0 0, .agg (rvs (enc T21 s_)), .agg (rvs (enc T4 c_))]
def bin_u8 (b_ : T17.T) (b_22 : List (T18).T) (s_ : T21.T) (c_ : T4.T) : List Blk := [.var 140 (rvs (enc T17 b_) ++ [.own 1 0]), .row 54 T18 b_22]
abbrev C_u8 (b_ : T17.T) (b_22 : List (T18).T) (s_ : T21.T) (c_ : T4.T) (r : R_u8) : Prop := CC Tryz.prog 82 (args_u8 b_ b_22 s_ c_) (bin_u8 b_ b_22 s_ c_) (res_u8 r) (bo_u8 b_ b_22 s_ c_ r)
def f_u8 (k : Nat) (b_ : T17.T) (b_22 : List (T18).T) (s_ : T21.T) (c_ : T4.T) : Option R_u8 :=
  if ((c_.1 == (0 : Int) && c_.2.1 == b_.2.1 && (!c_.2.2.1) && (↑ (List.length c_.2.2.2) : Int) == (1 : Int)) = true → (0 : Int) ≤ (0 : Int)) ∧ ((c_.1 == (0 : Int) && c_.2.1 == b_.2.1 && (!c_.2.2.1) && (↑ (List.length c_.2.2.2) : Int) == (1 : Int)) = true → (0 : Int) < (↑ (List.length c_.2.2.2) : Int)) then
  some (c_.1 == 0 && c_.2.1 == b_.2.1 && (!c_.2.2.1) && (↑ (List.length c_.2.2.2) : Int) == 1 && eqT T3 (List.getD c_.2.2.2 (Int.toNat 0) T3.dflt) (s_.1, IntKind.i64.wrap (s_.2 - s_.1), false))
  else none
def v_u8 (k : Nat) (b_ : T17.T) (b_22 : List (T18).T) (s_ : T21.T) (c_ : T4.T) : R_u8 := (f_u8 k b_ b_22 s_ c_).getD false
def ke_u8 (k : Nat) : Ke := (82, fun xs => match xs with
  | [.ptr _ _ _, _, _] => some [true, false, false]
  | _ => none, fun xs bs => match xs, bs with
  | [.ptr 0 0 0, .agg qs_, .agg qc_], [.var 140 qb_, .row 54 tb_22_ qb_22] => (decS [] T21 qs_).bind fun s_ => (decS [] T4 qc_).bind fun c_ => (decS [] T17 (qb_.take 22)).bind fun b_ => (castL tb_22_ T18 qb_22).bind fun b_22 => some (.one (res_u8 (v_u8 k b_ b_22 s_ c_), bo_u8 b_ b_22 s_ c_ (v_u8 k b_ b_22 s_ c_)))
  | _, _ => none)
theorem of_u8 (k : Nat) (b_ : T17.T) (b_22 : List (T18).T) (s_ : T21.T) (c_ : T4.T) (r : R_u8) (h : f_u8 k b_ b_22 s_ c_ = some r) : C_u8 b_ b_22 s_ c_ r := by
  refine CC.of (fn := Tryz.f82) (by kernel_rfl) (by kernel_rfl) (by kernel_rfl) (by kernel_rfl) ?_
  unfold f_u8 at h
  exact go (mkK []) [] [] [.autoB [6] true []] (gN2 h fun h => gL h) (by kernel_rfl)
theorem cc_u8 {k : Nat} {b_ : T17.T} {b_22 : List (T18).T} {s_ : T21.T} {c_ : T4.T} (h : (f_u8 k b_ b_22 s_ c_).isSome = true) : C_u8 b_ b_22 s_ c_ (v_u8 k b_ b_22 s_ c_) := ccG (Φ := C_u8 b_ b_22 s_ c_) h (of_u8 k b_ b_22 s_ c_)
abbrev R_u16 : Type := T17.T × List (T18).T
def res_u16 (r : R_u16) : AV := .tup []
def bo_u16 (t_ : T17.T) (t_22 : List (T18).T) (r : R_u16) : List (Nat × Blk) := [(0, .var 140 ((rvs (enc T17 r.1)) ++ [.own 1 1])), (1, .row 54 T18 r.2)]
def args_u16 (t_ : T17.T) (t_22 : List (T18).T) : List AV := [.ptr 0 0 0]
def bin_u16 (t_ : T17.T) (t_22 : List (T18).T) : List Blk := [.var 140 (rvs (enc T17 t_) ++ [.own 1 0]), .row 54 T18 t_22]
abbrev C_u16 (t_ : T17.T) (t_22 : List (T18).T) (r : R_u16) : Prop := CC Tryz.prog 37 (args_u16 t_ t_22) (bin_u16 t_ t_22) (res_u16 r) (bo_u16 t_ t_22 r)
def st_u16_17 (t_ : T17.T) (t_22 : List (T18).T) (y0 : List (T21).T) (y1 : List (T5).T) (y2 : Int) (y3 : Int) (y4 : T17.T) (y5 : List (T18).T) (y6 : List (T4).T) : St := ⟨mkS 143 [(0, .ptr 0 0 0), (7, .r (.ro T21 y0)), (8, .own 1000000 0), (93, .r (.ro T5 y1)), (94, .r (.v (.int .i64 y2))), (95, .r (.v (.int .i64 y3)))], [(0, 0, .var 140 ((rvs (enc T17 y4)) ++ [.own 1 1])), (1, 1, .row 54 T18 y5), (1000000, 0, .row 45 T4 y6)]⟩
def st_u16_23 (t_ : T17.T) (t_22 : List (T18).T) (y0 : List (T21).T) (y1 : Int) (y2 : Int) (y3 : T17.T) (y4 : List (T18).T) (y5 : List (T4).T) : St := ⟨mkS 143 [(0, .ptr 0 0 0), (7, .r (.ro T21 y0)), (8, .own 1000000 0), (112, .r (.v (.int .i64 y1))), (113, .r (.v (.int .i64 y2)))], [(0, 0, .var 140 ((rvs (enc T17 y3)) ++ [.own 1 1])), (1, 1, .row 54 T18 y4), (1000000, 0, .row 45 T4 y5)]⟩
mutual
def f_u16_17 (k : Nat) (t_ : T17.T) (t_22 : List (T18).T) : Nat → List (T21).T → List (T5).T → Int → Int → T17.T → List (T18).T → List (T4).T → Option R_u16
  | 0, _, _, _, _, _, _, _ => none
  | j + 1, y0, y1, y2, y3, y4, y5, y6 =>
  bif (decide (y3 < y2)) then
  if (0 ≤ y3) ∧ (y3 < (↑y1.length : Int)) then
  bif ((y1.getD y3.toNat T5.dflt).2.1 == (0 : Int)) then
  if ((y6.length + [(y1.getD y3.toNat T5.dflt).2.2].length) * (48 : Nat) ≤ (140737488355328 : Nat)) then
  f_u16_17 k t_ t_22 j y0 y1 y2 ((IntKind.i64.wrap (y3 + 1))) y4 y5 ((y6 ++ [(y1.getD y3.toNat T5.dflt).2.2]))
  else none
  else
  f_u16_17 k t_ t_22 j y0 y1 y2 ((IntKind.i64.wrap (y3 + 1))) y4 y5 y6
  else none
  else
  f_u16_23 k t_ t_22 j y0 ((if (↑y6.length : Int) > (↑y0.length : Int) then (↑y6.length : Int) else (↑y0.length : Int))) 0 y4 y5 y6
def f_u16_23 (k : Nat) (t_ : T17.T) (t_22 : List (T18).T) : Nat → List (T21).T → Int → Int → T17.T → List (T18).T → List (T4).T → Option R_u16
  | 0, _, _, _, _, _, _ => none
  | j + 1, y0, y1, y2, y3, y4, y5 =>
  bif (decide (y2 < y1)) then
  bif (decide (y2 ≥ (↑y0.length : Int)) || decide (y2 ≥ (↑y5.length : Int))) then
  if ((decide (y2 ≥ (↑y0.length : Int)) || decide (y2 ≥ (↑y5.length : Int))) = true) then
  if ((f_u11 k y3 y4 2 y2 0).isSome = true) then
  some (((v_u11 k y3 y4 2 y2 0).1, (v_u11 k y3 y4 2 y2 0).2))
  else none
  else none
  else
  if ((decide (y2 ≥ (↑y0.length : Int)) || decide (y2 ≥ (↑y5.length : Int))) = false) ∧ (0 ≤ y2) ∧ (y2 < (↑y0.length : Int)) ∧ (0 ≤ y2) ∧ (y2 < (↑y5.length : Int)) ∧ ((f_u8 k y3 y4 (y0.getD y2.toNat T21.dflt) (y5.getD y2.toNat T4.dflt)).isSome = true) then
  bif (false || (!v_u8 k y3 y4 (y0.getD y2.toNat T21.dflt) (y5.getD y2.toNat T4.dflt))) then
  if ((f_u11 k y3 y4 2 y2 0).isSome = true) then
  some (((v_u11 k y3 y4 2 y2 0).1, (v_u11 k y3 y4 2 y2 0).2))
  else none
  else
  f_u16_23 k t_ t_22 j y0 y1 ((IntKind.i64.wrap (y2 + 1))) y3 y4 y5
  else none
  else
  some ((y3, y4))
end
def f_u16 (k : Nat) (t_ : T17.T) (t_22 : List (T18).T) : Option R_u16 :=
  if ((f_u76 k t_.2.2.2.2.2.2.2.2.2.1).isSome = true) then
  bif (v_u76 k t_.2.2.2.2.2.2.2.2.2.1 != (0 : Int)) then
  if ((f_u11 k t_ t_22 1 (v_u76 k t_.2.2.2.2.2.2.2.2.2.1) 0).isSome = true) then
  some (((v_u11 k t_ t_22 1 (v_u76 k t_.2.2.2.2.2.2.2.2.2.1) 0).1, (v_u11 k t_ t_22 1 (v_u76 k t_.2.2.2.2.2.2.2.2.2.1) 0).2))
  else none
  else
  bif (decide ((↑ (List.length t_.2.2.2.2.2.2.2.2.2.1) : Int) > (0 : Int))) then
  if ((0 : Int) ≤ IntKind.i64.wrap ((↑ (List.length t_.2.2.2.2.2.2.2.2.2.1) : Int) - (1 : Int))) ∧ (IntKind.i64.wrap ((↑ (List.length t_.2.2.2.2.2.2.2.2.2.1) : Int) - (1 : Int)) < (↑ (List.length t_.2.2.2.2.2.2.2.2.2.1) : Int)) then
  bif ((List.getD t_.2.2.2.2.2.2.2.2.2.1 (IntKind.i64.wrap ((↑ (List.length t_.2.2.2.2.2.2.2.2.2.1) : Int) - (1 : Int))).toNat T2.dflt).2.1 != t_.2.2.1) then
  if ((f_u11 k t_ t_22 1 0 (List.getD t_.2.2.2.2.2.2.2.2.2.1 (IntKind.i64.wrap ((↑ (List.length t_.2.2.2.2.2.2.2.2.2.1) : Int) - 1)).toNat T2.dflt).2.1).isSome = true) then
  some (((v_u11 k t_ t_22 1 0 (List.getD t_.2.2.2.2.2.2.2.2.2.1 (IntKind.i64.wrap ((↑ (List.length t_.2.2.2.2.2.2.2.2.2.1) : Int) - 1)).toNat T2.dflt).2.1).1, (v_u11 k t_ t_22 1 0 (List.getD t_.2.2.2.2.2.2.2.2.2.1 (IntKind.i64.wrap ((↑ (List.length t_.2.2.2.2.2.2.2.2.2.1) : Int) - 1)).toNat T2.dflt).2.1).2))
  else none
  else
  if ((f_u79 k t_.2.2.2.2.2.2.2.2.2.1 (0, t_.2.2.2.1)).isSome = true) then
  bif ((v_u79 k t_.2.2.2.2.2.2.2.2.2.1 ((0 : Int), t_.2.2.2.1)).2 == (0 : Int)) then
  if ((f_u77 k (v_u79 k t_.2.2.2.2.2.2.2.2.2.1 (0, t_.2.2.2.1)).1 t_.2.2.2.2.2.2.2.2.2.2.1 t_.2.2.2.2.1).isSome = true) then
  bif ((v_u77 k (v_u79 k t_.2.2.2.2.2.2.2.2.2.1 ((0 : Int), t_.2.2.2.1)).1 t_.2.2.2.2.2.2.2.2.2.2.1 t_.2.2.2.2.1).2.2 != (0 : Int)) then
  if ((f_u11 k t_ t_22 2 (-1) (v_u77 k (v_u79 k t_.2.2.2.2.2.2.2.2.2.1 (0, t_.2.2.2.1)).1 t_.2.2.2.2.2.2.2.2.2.2.1 t_.2.2.2.2.1).2.2).isSome = true) then
  some (((v_u11 k t_ t_22 2 (-1) (v_u77 k (v_u79 k t_.2.2.2.2.2.2.2.2.2.1 (0, t_.2.2.2.1)).1 t_.2.2.2.2.2.2.2.2.2.2.1 t_.2.2.2.2.1).2.2).1, (v_u11 k t_ t_22 2 (-1) (v_u77 k (v_u79 k t_.2.2.2.2.2.2.2.2.2.1 (0, t_.2.2.2.1)).1 t_.2.2.2.2.2.2.2.2.2.2.1 t_.2.2.2.2.1).2.2).2))
  else none
  else
  f_u16_17 k t_ t_22 k ((v_u77 k (v_u79 k t_.2.2.2.2.2.2.2.2.2.1 (0, t_.2.2.2.1)).1 t_.2.2.2.2.2.2.2.2.2.2.1 t_.2.2.2.2.1).1) t_.2.2.2.2.2.2.2.2.2.2.2.1 ((↑ (List.length t_.2.2.2.2.2.2.2.2.2.2.2.1) : Int)) 0 t_ t_22 ([])
  else none
  else
  bif ((v_u79 k t_.2.2.2.2.2.2.2.2.2.1 ((0 : Int), t_.2.2.2.1)).2 != (0 : Int)) then
  if ((f_u11 k t_ t_22 2 (-1) (v_u79 k t_.2.2.2.2.2.2.2.2.2.1 (0, t_.2.2.2.1)).2).isSome = true) then
  some (((v_u11 k t_ t_22 2 (-1) (v_u79 k t_.2.2.2.2.2.2.2.2.2.1 (0, t_.2.2.2.1)).2).1, (v_u11 k t_ t_22 2 (-1) (v_u79 k t_.2.2.2.2.2.2.2.2.2.1 (0, t_.2.2.2.1)).2).2))
  else none
  else
  f_u16_17 k t_ t_22 k ([]) t_.2.2.2.2.2.2.2.2.2.2.2.1 ((↑ (List.length t_.2.2.2.2.2.2.2.2.2.2.2.1) : Int)) 0 t_ t_22 ([])
  else none
  else none
  else
  bif ((0 : Int) != t_.2.2.1) then
  if ((f_u11 k t_ t_22 1 0 0).isSome = true) then
  some (((v_u11 k t_ t_22 1 0 0).1, (v_u11 k t_ t_22 1 0 0).2))
  else none
  else
  if ((f_u79 k t_.2.2.2.2.2.2.2.2.2.1 (0, t_.2.2.2.1)).isSome = true) then
  bif ((v_u79 k t_.2.2.2.2.2.2.2.2.2.1 ((0 : Int), t_.2.2.2.1)).2 == (0 : Int)) then
  if ((f_u77 k (v_u79 k t_.2.2.2.2.2.2.2.2.2.1 (0, t_.2.2.2.1)).1 t_.2.2.2.2.2.2.2.2.2.2.1 t_.2.2.2.2.1).isSome = true) then
  bif ((v_u77 k (v_u79 k t_.2.2.2.2.2.2.2.2.2.1 ((0 : Int), t_.2.2.2.1)).1 t_.2.2.2.2.2.2.2.2.2.2.1 t_.2.2.2.2.1).2.2 != (0 : Int)) then
  if ((f_u11 k t_ t_22 2 (-1) (v_u77 k (v_u79 k t_.2.2.2.2.2.2.2.2.2.1 (0, t_.2.2.2.1)).1 t_.2.2.2.2.2.2.2.2.2.2.1 t_.2.2.2.2.1).2.2).isSome = true) then
  some (((v_u11 k t_ t_22 2 (-1) (v_u77 k (v_u79 k t_.2.2.2.2.2.2.2.2.2.1 (0, t_.2.2.2.1)).1 t_.2.2.2.2.2.2.2.2.2.2.1 t_.2.2.2.2.1).2.2).1, (v_u11 k t_ t_22 2 (-1) (v_u77 k (v_u79 k t_.2.2.2.2.2.2.2.2.2.1 (0, t_.2.2.2.1)).1 t_.2.2.2.2.2.2.2.2.2.2.1 t_.2.2.2.2.1).2.2).2))
  else none
  else
  f_u16_17 k t_ t_22 k ((v_u77 k (v_u79 k t_.2.2.2.2.2.2.2.2.2.1 (0, t_.2.2.2.1)).1 t_.2.2.2.2.2.2.2.2.2.2.1 t_.2.2.2.2.1).1) t_.2.2.2.2.2.2.2.2.2.2.2.1 ((↑ (List.length t_.2.2.2.2.2.2.2.2.2.2.2.1) : Int)) 0 t_ t_22 ([])
  else none
  else
  bif ((v_u79 k t_.2.2.2.2.2.2.2.2.2.1 ((0 : Int), t_.2.2.2.1)).2 != (0 : Int)) then
  if ((f_u11 k t_ t_22 2 (-1) (v_u79 k t_.2.2.2.2.2.2.2.2.2.1 (0, t_.2.2.2.1)).2).isSome = true) then
  some (((v_u11 k t_ t_22 2 (-1) (v_u79 k t_.2.2.2.2.2.2.2.2.2.1 (0, t_.2.2.2.1)).2).1, (v_u11 k t_ t_22 2 (-1) (v_u79 k t_.2.2.2.2.2.2.2.2.2.1 (0, t_.2.2.2.1)).2).2))
  else none
  else
  f_u16_17 k t_ t_22 k ([]) t_.2.2.2.2.2.2.2.2.2.2.2.1 ((↑ (List.length t_.2.2.2.2.2.2.2.2.2.2.2.1) : Int)) 0 t_ t_22 ([])
  else none
  else none
def v_u16 (k : Nat) (t_ : T17.T) (t_22 : List (T18).T) : R_u16 := (f_u16 k t_ t_22).getD ((T17).dflt, [])
def ke_u16 (k : Nat) : Ke := (37, fun xs => match xs with
  | [.ptr _ _ _] => some [true]
  | _ => none, fun xs bs => match xs, bs with
  | [.ptr 0 0 0], [.var 140 qt_, .row 54 tt_22_ qt_22] => (decS [] T17 (qt_.take 22)).bind fun t_ => (castL tt_22_ T18 qt_22).bind fun t_22 => some (.one (res_u16 (v_u16 k t_ t_22), bo_u16 t_ t_22 (v_u16 k t_ t_22)))
  | _, _ => none)
def K_u16 (k : Nat) : Calld := mkK [ke_u11 k, ke_u76 k, ke_u79 k, ke_u77 k, ke_u8 k]
def cs_u16 : List (Nat × List Cmd) := [(17, [.frz 7 false (RTy.list T21), .row 8 45 T4, .autoB [0, 7, 8, 93, 94, 95] false [1]]), (23, [.autoB [0, 7, 8, 112, 113] false [1]])]
abbrev E_u16 (t_ : T17.T) (t_22 : List (T18).T) (todo : List Item) (st : St) (o : Option R_u16) : Prop := ∀ r, o = some r → Ev Tryz.prog Tryz.f37 2 todo st (res_u16 r) (bo_u16 t_ t_22 r)
theorem ev_u16 (k : Nat) (t_ : T17.T) (t_22 : List (T18).T) : ∀ j, (∀ (y0 : List (T21).T) (y1 : List (T5).T) (y2 : Int) (y3 : Int) (y4 : T17.T) (y5 : List (T18).T) (y6 : List (T4).T), E_u16 t_ t_22 (placeAt Tryz.f37 17) (st_u16_17 t_ t_22 y0 y1 y2 y3 y4 y5 y6) (f_u16_17 k t_ t_22 j y0 y1 y2 y3 y4 y5 y6)) ∧ (∀ (y0 : List (T21).T) (y1 : Int) (y2 : Int) (y3 : T17.T) (y4 : List (T18).T) (y5 : List (T4).T), E_u16 t_ t_22 (placeAt Tryz.f37 23) (st_u16_23 t_ t_22 y0 y1 y2 y3 y4 y5) (f_u16_23 k t_ t_22 j y0 y1 y2 y3 y4 y5))
  | 0 => ⟨fun _ _ _ _ _ _ _ _ h => (nomatch h), fun _ _ _ _ _ _ _ h => (nomatch h)⟩
  | j + 1 => by
    have ih := @ev_u16 k t_ t_22 j
    refine ⟨?_, ?_⟩
    · intro y0 y1 y2 y3 y4 y5 y6 r h
      rw [f_u16_17] at h
      exact go (K_u16 k) [] cs_u16 [.autoB [] true [1]] (gT h (fun c h => gN2 h fun h => gT h (fun c h => gN1 h id fun h => gC h 17 (ih.1 _ _ _ _ _ _ _ _)) fun c h => gC h 17 (ih.1 _ _ _ _ _ _ _ _)) fun c h => gC h 23 (ih.2 _ _ _ _ _ _ _)) (by kernel_rfl)
    · intro y0 y1 y2 y3 y4 y5 r h
      rw [f_u16_23] at h
      exact go (K_u16 k) [] cs_u16 [.autoB [] true [1]] (gT h (fun c h => gT h (fun c h => gN1 h id fun h => gU1 h (.cut 23 (placeAt Tryz.f37 23) ⟨mkS 143 [(0, .ptr 0 0 0), (7, .r (.ro T21 y0)), (8, .own 1000000 0), (112, .r (.v (.int .i64 y1))), (113, .r (.v (.int .i64 ((IntKind.i64.wrap (y2 + 1))))))], [(0, 0, .var 140 ((rvs (enc T17 y3)) ++ [.own 1 1])), (1, 1, .row 54 T18 y4), (1000000, 0, .row 45 T4 y5)]⟩) fun h => gN1 h (fun q => cc_u11 q) fun h => gL h) fun c h => gN h (fun q => conjC q.1 (conjC q.2.1 (conjC q.2.2.1 (conjC q.2.2.2.1 (conjC q.2.2.2.2.1 (conjC (cc_u8 q.2.2.2.2.2) conj0)))))) fun h => gT h (fun c h => gN1 h (fun q => cc_u11 q) fun h => gL h) fun c h => gC h 23 (ih.2 _ _ _ _ _ _ _)) fun c h => gL h) (by kernel_rfl)
theorem of_u16 (k : Nat) (t_ : T17.T) (t_22 : List (T18).T) (r : R_u16) (h : f_u16 k t_ t_22 = some r) : C_u16 t_ t_22 r := by
  refine CC.of (fn := Tryz.f37) (by kernel_rfl) (by kernel_rfl) (by kernel_rfl) (by kernel_rfl) ?_
  unfold f_u16 at h
  exact go (K_u16 k) [] cs_u16 [.autoB [] true [1]] (gN1 h (fun q => cc_u76 q) fun h => gT h (fun c h => gN1 h (fun q => cc_u11 q) fun h => gL h) fun c h => gT h (fun c h => gN2 h fun h => gT h (fun c h => gN1 h (fun q => cc_u11 q) fun h => gL h) fun c h => gN1 h (fun q => cc_u79 q) fun h => gT h (fun c h => gN1 h (fun q => cc_u77 q) fun h => gT h (fun c h => gN1 h (fun q => cc_u11 q) fun h => gL h) fun c h => gC h 17 ((ev_u16 k t_ t_22 k).1 _ _ _ _ _ _ _ _)) fun c h => gT h (fun c h => gN1 h (fun q => cc_u11 q) fun h => gL h) fun c h => gC h 17 ((ev_u16 k t_ t_22 k).1 _ _ _ _ _ _ _ _)) fun c h => gT h (fun c h => gN1 h (fun q => cc_u11 q) fun h => gL h) fun c h => gN1 h (fun q => cc_u79 q) fun h => gT h (fun c h => gN1 h (fun q => cc_u77 q) fun h => gT h (fun c h => gN1 h (fun q => cc_u11 q) fun h => gL h) fun c h => gC h 17 ((ev_u16 k t_ t_22 k).1 _ _ _ _ _ _ _ _)) fun c h => gT h (fun c h => gN1 h (fun q => cc_u11 q) fun h => gL h) fun c h => gC h 17 ((ev_u16 k t_ t_22 k).1 _ _ _ _ _ _ _ _)) (by kernel_rfl)
theorem cc_u16 {k : Nat} {t_ : T17.T} {t_22 : List (T18).T} (h : (f_u16 k t_ t_22).isSome = true) : C_u16 t_ t_22 (v_u16 k t_ t_22) := ccG (Φ := C_u16 t_ t_22) h (of_u16 k t_ t_22)
end
end Go.AM
namespace Go.AM
open Go Go.Proofs
noncomputable section
end
end Go.AM
namespace Go.AM
open Go Go.Proofs
noncomputable section
abbrev R_u7 : Type := T17.T
def res_u7 (r : R_u7) : AV := .sub 2 0 1 0 1
def bo_u7 (x_ : T17.T) (x_22 : List (T18).T) (r : R_u7) : List (Nat × Blk) := [(0, .var 140 ((rvs (enc T17 r)) ++ [.own 1 0])), (0, .row 54 T18 x_22), (0, .var 1 [.fn ((Fn.func 37)) [.ptr 0 0 0] []])]
def args_u7 (x_ : T17.T) (x_22 : List (T18).T) : List AV := [.ptr 0 0 0]
def bin_u7 (x_ : T17.T) (x_22 : List (T18).T) : List Blk := [.var 140 (rvs (enc T17 x_) ++ [.own 1 0]), .row 54 T18 x_22]
abbrev C_u7 (x_ : T17.T) (x_22 : List (T18).T) (r : R_u7) : Prop := CC Tryz.prog 36 (args_u7 x_ x_22) (bin_u7 x_ x_22) (res_u7 r) (bo_u7 x_ x_22 r)
def f_u7 (k : Nat) (x_ : T17.T) (x_22 : List (T18).T) : Option R_u7 :=
  some x_
def v_u7 (k : Nat) (x_ : T17.T) (x_22 : List (T18).T) : R_u7 := (f_u7 k x_ x_22).getD (T17).dflt
def ke_u7 (k : Nat) : Ke := (36, fun xs => match xs with
  | [.ptr _ _ _] => some [true]
  | _ => none, fun xs bs => match xs, bs with
  | [.ptr 0 0 0], [.var 140 qx_, .row 54 tx_22_ qx_22] => (decS [] T17 (qx_.take 22)).bind fun x_ => (castL tx_22_ T18 qx_22).bind fun x_22 => some (.one (res_u7 (v_u7 k x_ x_22), bo_u7 x_ x_22 (v_u7 k x_ x_22)))
  | _, _ => none)
theorem of_u7 (k : Nat) (x_ : T17.T) (x_22 : List (T18).T) (r : R_u7) (h : f_u7 k x_ x_22 = some r) : C_u7 x_ x_22 r := by
  refine CC.of (fn := Tryz.f36) (by kernel_rfl) (by kernel_rfl) (by kernel_rfl) (by kernel_rfl) ?_
  unfold f_u7 at h
  exact go (mkK [ke_u16 k]) [] [] [.autoB [2] true []] (gL h) (by kernel_rfl)
theorem cc_u7 {k : Nat} {x_ : T17.T} {x_22 : List (T18).T} (h : (f_u7 k x_ x_22).isSome = true) : C_u7 x_ x_22 (v_u7 k x_ x_22) := ccG (Φ := C_u7 x_ x_22) h (of_u7 k x_ x_22)
abbrev R_u22 : Type := List (T18).T × Int
def res_u22 (r : R_u22) : AV := .tup [.r (.ro T18 r.1), .r (.v (.int .i64 r.2))]
def bo_u22 (b_ : T17.T) (r : R_u22) : List (Nat × Blk) := []
def args_u22 (b_ : T17.T) : List AV := [.agg (rvs (enc T17 b_)), .r (.v (.func (.func 36) #[] #[]))]
def bin_u22 (b_ : T17.T) : List Blk := []
abbrev C_u22 (b_ : T17.T) (r : R_u22) : Prop := CC Tryz.prog 33 (args_u22 b_) (bin_u22 b_) (res_u22 r) (bo_u22 b_ r)
def st_u22_10005 (y0 : T17.T) (y1 : List (T18).T) : St := ⟨mkS 29 [(6, .ptr 1000000 0 0), (16, .sub 1000002 0 1 0 1), (17, .r (.v (.int .i64 1))), (18, .r (.v (.int .i64 0)))], [(1000000, 0, .var 140 ((rvs (enc T17 y0)) ++ [.own 1000001 0])), (1000001, 0, .row 54 T18 y1), (1000002, 0, .var 1 [.fn ((Fn.func 37)) [.ptr 1000000 0 0] []])]⟩
def st_u22_20005 (y0 : T17.T) (y1 : List (T18).T) : St := ⟨mkS 29 [(6, .ptr 1000000 0 0), (16, .sub 1000002 0 1 0 1), (17, .r (.v (.int .i64 1))), (18, .r (.v (.int .i64 1)))], [(1000000, 0, .var 140 ((rvs (enc T17 y0)) ++ [.own 1000001 0])), (1000001, 0, .row 54 T18 y1), (1000002, 0, .var 1 [.fn ((Fn.func 37)) [.ptr 1000000 0 0] []])]⟩
mutual
def f_u22_10005 (k : Nat) : Nat → T17.T → List (T18).T → Option R_u22
  | 0, _, _ => none
  | j + 1, y0, y1 =>
  if ((0 : Int) ≤ (0 : Int)) ∧ ((0 : Int) < (↑ (1 : Nat) : Int)) then
  if ((f_u16 k y0 y1).isSome = true) then
  f_u22_20005 k j ((v_u16 k y0 y1).1) ((v_u16 k y0 y1).2)
  else none
  else none
def f_u22_20005 (k : Nat) : Nat → T17.T → List (T18).T → Option R_u22
  | 0, _, _ => none
  | j + 1, y0, y1 =>
  some ((y1, 0))
end
def f_u22 (k : Nat) (b_ : T17.T) : Option R_u22 :=
  if ((f_u17 k b_).isSome = true) then
  bif (v_u17 k b_) then
  some (([], 8))
  else
  if ((f_u7 k b_ []).isSome = true) then
  f_u22_10005 k k ((v_u7 k b_ [])) ([])
  else none
  else none
def v_u22 (k : Nat) (b_ : T17.T) : R_u22 := (f_u22 k b_).getD ([], 0)
def ke_u22 (k : Nat) : Ke := (33, fun xs => match xs with
  | [_, .r (.v (.func (.func 36) _ _))] => some [false, false]
  | _ => none, fun xs bs => match xs, bs with
  | [.agg qb_, .r (.v (.func (.func 36) _ _))], [] => (decS [] T17 qb_).bind fun b_ => some (.one (res_u22 (v_u22 k b_), bo_u22 b_ (v_u22 k b_)))
  | _, _ => none)
def K_u22 (k : Nat) : Calld := mkK [ke_u17 k, ke_u16 k, ke_u7 k]
def cs_u22 : List (Nat × List Cmd) := [(5, [.key 18, .autoB [6, 16, 17, 18] false []])]
abbrev E_u22 (b_ : T17.T) (todo : List Item) (st : St) (o : Option R_u22) : Prop := ∀ r, o = some r → Ev Tryz.prog Tryz.f33 0 todo st (res_u22 r) (bo_u22 b_ r)
theorem ev_u22 (k : Nat) (b_ : T17.T) : ∀ j, (∀ (y0 : T17.T) (y1 : List (T18).T), E_u22 b_ (placeAt Tryz.f33 5) (st_u22_10005 y0 y1) (f_u22_10005 k j y0 y1)) ∧ (∀ (y0 : T17.T) (y1 : List (T18).T), E_u22 b_ (placeAt Tryz.f33 5) (st_u22_20005 y0 y1) (f_u22_20005 k j y0 y1))
  | 0 => ⟨fun _ _ _ h => (nomatch h), fun _ _ _ h => (nomatch h)⟩
  | j + 1 => by
    have ih := @ev_u22 k b_ j
    refine ⟨?_, ?_⟩
    · intro y0 y1 r h
      rw [f_u22_10005] at h
      exact go (K_u22 k) [] cs_u22 [.frz 4 false (RTy.list T18), .autoB [4, 5] true []] (gU1 h (.leaf (.tup [.r (.ro T18 y1), .r (.v (.int .i64 0))]) []) fun h => gN2 h fun h => gN1 h (fun q => cc_u16 q) fun h => gC h 20005 (ih.2 _ _ _)) (by kernel_rfl)
    · intro y0 y1 r h
      rw [f_u22_20005] at h
      exact go (K_u22 k) [] cs_u22 [.frz 4 false (RTy.list T18), .autoB [4, 5] true []] (gU2 h (.stuck 5001) fun h => gL h) (by kernel_rfl)
theorem of_u22 (k : Nat) (b_ : T17.T) (r : R_u22) (h : f_u22 k b_ = some r) : C_u22 b_ r := by
  refine CC.of (fn := Tryz.f33) (by kernel_rfl) (by kernel_rfl) (by kernel_rfl) (by kernel_rfl) ?_
  unfold f_u22 at h
  exact go (K_u22 k) [] cs_u22 [.frz 4 false (RTy.list T18), .autoB [4, 5] true []] (gN1 h (fun q => cc_u17 q) fun h => gT h (fun c h => gL h) fun c h => gN1 h (fun q => cc_u7 q) fun h => gC h 10005 ((ev_u22 k b_ k).1 _ _ _)) (by kernel_rfl)
theorem cc_u22 {k : Nat} {b_ : T17.T} (h : (f_u22 k b_).isSome = true) : C_u22 b_ (v_u22 k b_) := ccG (Φ := C_u22 b_) h (of_u22 k b_)
abbrev R_u6 : Type := List (T18).T × Int
def res_u6 (r : R_u6) : AV := .tup [.r (.ro T18 r.1), .r (.v (.int .i64 r.2))]
def bo_u6 (b_ : T17.T) (r : R_u6) : List (Nat × Blk) := []
def args_u6 (b_ : T17.T) : List AV := [.agg (rvs (enc T17 b_))]
def bin_u6 (b_ : T17.T) : List Blk := []
abbrev C_u6 (b_ : T17.T) (r : R_u6) : Prop := CC Tryz.prog 15 (args_u6 b_) (bin_u6 b_) (res_u6 r) (bo_u6 b_ r)
def f_u6 (k : Nat) (b_ : T17.T) : Option R_u6 :=
  if ((f_u22 k b_).isSome = true) then
  some (((v_u22 k b_).1, (v_u22 k b_).2))
  else none
def v_u6 (k : Nat) (b_ : T17.T) : R_u6 := (f_u6 k b_).getD ([], 0)
def ke_u6 (k : Nat) : Ke := (15, fun xs => match xs with
  | [_] => some [false]
  | _ => none, fun xs bs => match xs, bs with
  | [.agg qb_], [] => (decS [] T17 qb_).bind fun b_ => some (.one (res_u6 (v_u6 k b_), bo_u6 b_ (v_u6 k b_)))
  | _, _ => none)
theorem of_u6 (k : Nat) (b_ : T17.T) (r : R_u6) (h : f_u6 k b_ = some r) : C_u6 b_ r := by
  refine CC.of (fn := Tryz.f15) (by kernel_rfl) (by kernel_rfl) (by kernel_rfl) (by kernel_rfl) ?_
  unfold f_u6 at h
  exact go (mkK [ke_u7 k, ke_u22 k]) [] [] [.frz 2 false (RTy.list T18), .autoB [2, 3] true []] (gN1 h (fun q => cc_u22 q) fun h => gL h) (by kernel_rfl)
theorem cc_u6 {k : Nat} {b_ : T17.T} (h : (f_u6 k b_).isSome = true) : C_u6 b_ (v_u6 k b_) := ccG (Φ := C_u6 b_) h (of_u6 k b_)

end
/-! ### Web -/
abbrev Fnd := Int × Int × Int
theorem find_s (k : Nat) (b : T17.T) (fnd : List Fnd) (x y z : Int) (h : fnd.length ≤ 1000000) : f_u11 k b fnd x y z = some (b, fnd ++ [(x, y, z)]) := by
  unfold f_u11
  rw [if_pos (by simp only [List.length_singleton]; omega)]
theorem find_v (k : Nat) (b : T17.T) (fnd : List Fnd) (x y z : Int) (h : fnd.length ≤ 1000000) : v_u11 k b fnd x y z = (b, fnd ++ [(x, y, z)]) := by
  unfold v_u11; rw [find_s k b fnd x y z h]; rfl
end Go.AM
namespace Go.AM
open Go

/-! ### maps of integers as lists of runs -/
abbrev Rn := Int × Int × Bool   -- At, Len, Back

def good (r : Rn) : Prop := 1 ≤ r.2.1 ∧ r.2.1 ≤ 17179869184 ∧ 0 ≤ r.1 ∧ r.1 < 17179869184 ∧ (r.2.2 = true → 0 ≤ r.1 - r.2.1 + 1) ∧ (r.2.2 = false → r.1 + r.2.1 ≤ 17179869184)
instance (r : Rn) : Decidable (good r) := by unfold good; infer_instance

def lenS : List Rn → Int
  | [] => 0
  | r :: t => r.2.1 + lenS t

def goods : List Rn → Prop
  | [] => True
  | r :: t => good r ∧ goods t
instance : (l : List Rn) → Decidable (goods l)
  | [] => .isTrue trivial
  | r :: t => @instDecidableAnd _ _ _ (instDecidableGoods t)

/-- the error of a map -/
def chk (m : List Rn) : Int := if m.length > 256 then 8 else if goods m then (if lenS m > 17179869184 then 21 else 0) else 1

theorem goods.mem : ∀ {l : List Rn}, goods l → ∀ r ∈ l, good r
  | [], _, r, h => by simp at h
  | u :: t, ⟨h1, h2⟩, r, hr => by
    rcases List.mem_cons.1 hr with rfl | hr
    · exact h1
    · exact goods.mem h2 r hr
theorem goods.of : ∀ {l : List Rn}, (∀ r ∈ l, good r) → goods l
  | [], _ => trivial
  | u :: t, h => ⟨h u (by simp), goods.of fun r hr => h r (by simp [hr])⟩
theorem lenS_nonneg : ∀ {l : List Rn}, goods l → (l.length : Int) ≤ lenS l
  | [], _ => by simp [lenS]
  | r :: t, ⟨h1, h2⟩ => by
    have := lenS_nonneg h2
    have := h1.1
    simp only [lenS, List.length_cons]; omega
structure Chk (m : List Rn) : Prop where
  len : m.length ≤ 256
  goods : goods m
  tot : lenS m ≤ 17179869184
theorem chk_zero {m : List Rn} : chk m = 0 ↔ Chk m := by
  unfold chk
  constructor
  · intro h
    by_cases h1 : m.length > 256
    · rw [if_pos h1] at h; omega
    · rw [if_neg h1] at h
      by_cases h2 : goods m
      · rw [if_pos h2] at h
        by_cases h3 : lenS m > 17179869184
        · rw [if_pos h3] at h; omega
        · exact ⟨by omega, h2, by omega⟩
      · rw [if_neg h2] at h; omega
  · rintro ⟨h1, h2, h3⟩
    rw [if_neg (by omega), if_pos h2, if_neg (by omega)]

/-- the image of an integer of a run -/
def img (r : Rn) (x : Int) : Int := if r.2.2 = true then r.1 - x else r.1 + x

/-- the image of an integer of a map -/
def imgAt : List Rn → Int → Int
  | [], _ => 0
  | r :: t, x => if x < r.2.1 then img r x else imgAt t (x - r.2.1)

def lo (r : Rn) : Int := if r.2.2 = true then r.1 - r.2.1 + 1 else r.1
def hi (r : Rn) : Int := if r.2.2 = true then r.1 else r.1 + r.2.1 - 1
/-- the span of the images of a run -/
def spn (r : Rn) : Sp := (lo r, hi r + 1)

theorem good.lohi {r : Rn} (h : good r) : 0 ≤ lo r ∧ lo r ≤ hi r ∧ hi r < 17179869184 ∧ hi r - lo r + 1 = r.2.1 := by
  obtain ⟨h1, h2, h3, h4, h5, h6⟩ := h
  unfold lo hi
  cases hb : r.2.2
  · have := h6 hb; simp only [Bool.false_eq_true, if_false]; omega
  · have := h5 hb; simp only [if_true]; omega
theorem img_mem {r : Rn} {x : Int} (h0 : 0 ≤ x) (h1 : x < r.2.1) : lo r ≤ img r x ∧ img r x ≤ hi r := by
  unfold lo hi img
  cases r.2.2 <;> simp only [Bool.false_eq_true, if_false, if_true] <;> omega

/-- n integers of a run, from the integer x on -/
def prt (r : Rn) (x n : Int) : Rn := (img r x, n, r.2.2 && decide (n > 1))

def stp (c r : Rn) : Int := r.1 - img c (c.2.1 - 1)
/-- does a run begin anew behind another one? -/
def apart (c r : Rn) : Bool := (stp c r != 1 && stp c r != -1) || (decide (c.2.1 > 1) && !((stp c r == -1) == c.2.2))
/-- a normal form with a further run -/
def addS (b : List Rn) (r : Rn) : List Rn :=
  if r.2.1 < 1 then b else match b.getLast? with
    | none => b ++ [prt r 0 r.2.1]
    | some c => bif apart c r then b ++ [prt r 0 r.2.1]
      else bif decide (r.2.1 > 1) && !(r.2.2 == (stp c r == -1)) then b.dropLast ++ [(c.1, c.2.1 + 1, stp c r == -1), prt r 1 (r.2.1 - 1)]
      else b.dropLast ++ [(c.1, c.2.1 + r.2.1, stp c r == -1)]

def adds (b : List Rn) (l : List Rn) : List Rn := l.foldl addS b

/-- the pieces of a part of a map -/
def pieces : List Rn → Int → Int → List Rn
  | [], _, _ => []
  | r :: t, a, b =>
    (if max a 0 < min b r.2.1 then [prt r (max a 0) (min b r.2.1 - max a 0)] else []) ++ pieces t (a - r.2.1) (b - r.2.1)

/-- a piece from its end -/
def rvs1 (p : Rn) : Rn := (img p (p.2.1 - 1), p.2.1, !p.2.2 && decide (p.2.1 > 1))

/-- the pieces of outer that an inner run comes to, in its order -/
def steps (outer : List Rn) (r : Rn) : List Rn :=
  if r.2.2 = true then ((pieces outer (r.1 - r.2.1 + 1) (r.1 + 1)).reverse).map rvs1 else pieces outer r.1 (r.1 + r.2.1)

/-- does a map come out of another one? -/
def fitsIn (n : Int) : List Rn → Prop
  | [] => True
  | r :: t => hi r < n ∧ fitsIn n t
instance (n : Int) : (l : List Rn) → Decidable (fitsIn n l)
  | [] => .isTrue trivial
  | r :: t => @instDecidableAnd _ _ _ (instDecidableFitsIn n t)

end Go.AM
namespace Go.AM
open Go Go.Proofs
noncomputable section
abbrev R_u38 : Type := Int
def res_u38 (r : R_u38) : AV := .r (.v (.int .i64 r))
def bo_u38 (r_ : T3.T) (x_ : Int) (r : R_u38) : List (Nat × Blk) := []
def args_u38 (r_ : T3.T) (x_ : Int) : List AV := [.agg (rvs (enc T3 r_)), .r (.v (.int .i64 x_))]
def bin_u38 (r_ : T3.T) (x_ : Int) : List Blk := []
abbrev C_u38 (r_ : T3.T) (x_ : Int) (r : R_u38) : Prop := CC Tryz.prog 209 (args_u38 r_ x_) (bin_u38 r_ x_) (res_u38 r) (bo_u38 r_ x_ r)
def f_u38 (k : Nat) (r_ : T3.T) (x_ : Int) : Option R_u38 :=
  bif r_.2.2 then
  some (IntKind.i64.wrap (r_.1 - x_))
  else
  some (IntKind.i64.wrap (r_.1 + x_))
def v_u38 (k : Nat) (r_ : T3.T) (x_ : Int) : R_u38 := (f_u38 k r_ x_).getD 0
def ke_u38 (k : Nat) : Ke := (209, fun xs => match xs with
  | [_, _] => some [false, false]
  | _ => none, fun xs bs => match xs, bs with
  | [.agg qr_, .r (.v (.int .i64 x_))], [] => (decS [] T3 qr_).bind fun r_ => some (.one (res_u38 (v_u38 k r_ x_), bo_u38 r_ x_ (v_u38 k r_ x_)))
  | _, _ => none)
theorem of_u38 (k : Nat) (r_ : T3.T) (x_ : Int) (r : R_u38) (h : f_u38 k r_ x_ = some r) : C_u38 r_ x_ r := by
  refine CC.of (fn := Tryz.f209) (by kernel_rfl) (by kernel_rfl) (by kernel_rfl) (by kernel_rfl) ?_
  unfold f_u38 at h
  exact go (mkK []) [] [] [.autoB [4] true []] (gT h (fun c h => gL h) fun c h => gL h) (by kernel_rfl)
theorem cc_u38 {k : Nat} {r_ : T3.T} {x_ : Int} (h : (f_u38 k r_ x_).isSome = true) : C_u38 r_ x_ (v_u38 k r_ x_) := ccG (Φ := C_u38 r_ x_) h (of_u38 k r_ x_)
abbrev R_u40 : Type := Int
def res_u40 (r : R_u40) : AV := .r (.v (.int .i64 r))
def bo_u40 (m_ : List (T3).T) (r : R_u40) : List (Nat × Blk) := []
def args_u40 (m_ : List (T3).T) : List AV := [.r (.ro T3 m_)]
def bin_u40 (m_ : List (T3).T) : List Blk := []
abbrev C_u40 (m_ : List (T3).T) (r : R_u40) : Prop := CC Tryz.prog 171 (args_u40 m_) (bin_u40 m_) (res_u40 r) (bo_u40 m_ r)
def st_u40_3 (y0 : Int) (y1 : List (T3).T) (y2 : Int) (y3 : Int) : St := ⟨mkS 18 [(3, .r (.v (.int .i64 y0))), (6, .r (.ro T3 y1)), (7, .r (.v (.int .i64 y2))), (8, .r (.v (.int .i64 y3)))], []⟩
def f_u40_3 (k : Nat) : Nat → Int → List (T3).T → Int → Int → Option R_u40
  | 0, _, _, _, _ => none
  | j + 1, y0, y1, y2, y3 =>
  bif (decide (y3 < y2)) then
  if (0 ≤ y3) ∧ (y3 < (↑y1.length : Int)) then
  f_u40_3 k j ((IntKind.i64.wrap (y0 + (y1.getD y3.toNat T3.dflt).2.1))) y1 y2 ((IntKind.i64.wrap (y3 + 1)))
  else none
  else
  some y0
def f_u40 (k : Nat) (m_ : List (T3).T) : Option R_u40 :=
  f_u40_3 k k 0 m_ ((↑m_.length : Int)) 0
def v_u40 (k : Nat) (m_ : List (T3).T) : R_u40 := (f_u40 k m_).getD 0
def ke_u40 (k : Nat) : Ke := (171, fun xs => match xs with
  | [_] => some [false]
  | _ => none, fun xs bs => match xs, bs with
  | [.r (.ro tm__ qm_)], [] => (castL tm__ T3 qm_).bind fun m_ => some (.one (res_u40 (v_u40 k m_), bo_u40 m_ (v_u40 k m_)))
  | _, _ => none)
def cs_u40 : List (Nat × List Cmd) := [(3, [.autoB [3, 6, 7, 8] false []])]
abbrev E_u40 (m_ : List (T3).T) (todo : List Item) (st : St) (o : Option R_u40) : Prop := ∀ r, o = some r → Ev Tryz.prog Tryz.f171 0 todo st (res_u40 r) (bo_u40 m_ r)
theorem ev_u40 (k : Nat) (m_ : List (T3).T) : ∀ j, (∀ (y0 : Int) (y1 : List (T3).T) (y2 : Int) (y3 : Int), E_u40 m_ (placeAt Tryz.f171 3) (st_u40_3 y0 y1 y2 y3) (f_u40_3 k j y0 y1 y2 y3))
  | 0 => fun _ _ _ _ _ h => (nomatch h)
  | j + 1 => by
    have ih := @ev_u40 k m_ j
    · intro y0 y1 y2 y3 r h
      rw [f_u40_3] at h
      exact go (mkK []) [] cs_u40 [.autoB [2] true []] (gT h (fun c h => gN2 h fun h => gC h 3 (ih _ _ _ _ _)) fun c h => gL h) (by kernel_rfl)
theorem of_u40 (k : Nat) (m_ : List (T3).T) (r : R_u40) (h : f_u40 k m_ = some r) : C_u40 m_ r := by
  refine CC.of (fn := Tryz.f171) (by kernel_rfl) (by kernel_rfl) (by kernel_rfl) (by kernel_rfl) ?_
  unfold f_u40 at h
  exact go (mkK []) [] cs_u40 [.autoB [2] true []] (gC h 3 ((ev_u40 k m_ k) _ _ _ _ _)) (by kernel_rfl)
theorem cc_u40 {k : Nat} {m_ : List (T3).T} (h : (f_u40 k m_).isSome = true) : C_u40 m_ (v_u40 k m_) := ccG (Φ := C_u40 m_) h (of_u40 k m_)
abbrev R_u34 : Type := Int
def res_u34 (r : R_u34) : AV := .r (.v (.int .i64 r))
def bo_u34 (m_ : List (T3).T) (r : R_u34) : List (Nat × Blk) := []
def args_u34 (m_ : List (T3).T) : List AV := [.r (.ro T3 m_)]
def bin_u34 (m_ : List (T3).T) : List Blk := []
abbrev C_u34 (m_ : List (T3).T) (r : R_u34) : Prop := CC Tryz.prog 119 (args_u34 m_) (bin_u34 m_) (res_u34 r) (bo_u34 m_ r)
def st_u34_5 (y0 : Int) (y1 : List (T3).T) (y2 : Int) (y3 : Int) : St := ⟨mkS 64 [(3, .r (.v (.int .i64 y0))), (9, .r (.ro T3 y1)), (10, .r (.v (.int .i64 y2))), (11, .r (.v (.int .i64 y3)))], []⟩
def f_u34_5 (k : Nat) : Nat → Int → List (T3).T → Int → Int → Option R_u34
  | 0, _, _, _, _ => none
  | j + 1, y0, y1, y2, y3 =>
  bif (decide (y3 < y2)) then
  if (0 ≤ y3) ∧ (y3 < (↑y1.length : Int)) then
  bif (decide ((y1.getD y3.toNat T3.dflt).2.1 < (1 : Int)) || decide ((y1.getD y3.toNat T3.dflt).2.1 > (17179869184 : Int)) || decide ((y1.getD y3.toNat T3.dflt).1 < (0 : Int)) || decide ((y1.getD y3.toNat T3.dflt).1 ≥ (17179869184 : Int))) then
  some 1
  else
  bif ((y1.getD y3.toNat T3.dflt).2.2 && decide (IntKind.i64.wrap (IntKind.i64.wrap ((y1.getD y3.toNat T3.dflt).1 - (y1.getD y3.toNat T3.dflt).2.1) + (1 : Int)) < (0 : Int)) || (! (y1.getD y3.toNat T3.dflt).2.2) && decide (IntKind.i64.wrap ((y1.getD y3.toNat T3.dflt).1 + (y1.getD y3.toNat T3.dflt).2.1) > (17179869184 : Int))) then
  some 1
  else
  f_u34_5 k j ((IntKind.i64.wrap (y0 + (y1.getD y3.toNat T3.dflt).2.1))) y1 y2 ((IntKind.i64.wrap (y3 + 1)))
  else none
  else
  bif (decide (y0 > (17179869184 : Int))) then
  some 21
  else
  some 0
def f_u34 (k : Nat) (m_ : List (T3).T) : Option R_u34 :=
  bif (decide ((↑m_.length : Int) > (256 : Int))) then
  some 8
  else
  f_u34_5 k k 0 m_ ((↑m_.length : Int)) 0
def v_u34 (k : Nat) (m_ : List (T3).T) : R_u34 := (f_u34 k m_).getD 0
def ke_u34 (k : Nat) : Ke := (119, fun xs => match xs with
  | [_] => some [false]
  | _ => none, fun xs bs => match xs, bs with
  | [.r (.ro tm__ qm_)], [] => (castL tm__ T3 qm_).bind fun m_ => some (.one (res_u34 (v_u34 k m_), bo_u34 m_ (v_u34 k m_)))
  | _, _ => none)
def cs_u34 : List (Nat × List Cmd) := [(5, [.autoB [3, 9, 10, 11] false []])]
abbrev E_u34 (m_ : List (T3).T) (todo : List Item) (st : St) (o : Option R_u34) : Prop := ∀ r, o = some r → Ev Tryz.prog Tryz.f119 0 todo st (res_u34 r) (bo_u34 m_ r)
theorem ev_u34 (k : Nat) (m_ : List (T3).T) : ∀ j, (∀ (y0 : Int) (y1 : List (T3).T) (y2 : Int) (y3 : Int), E_u34 m_ (placeAt Tryz.f119 5) (st_u34_5 y0 y1 y2 y3) (f_u34_5 k j y0 y1 y2 y3))
  | 0 => fun _ _ _ _ _ h => (nomatch h)
  | j + 1 => by
    have ih := @ev_u34 k m_ j
    · intro y0 y1 y2 y3 r h
      rw [f_u34_5] at h
      exact go (mkK []) [] cs_u34 [.autoB [2] true []] (gT h (fun c h => gN2 h fun h => gT h (fun c h => gL h) fun c h => gT h (fun c h => gL h) fun c h => gC h 5 (ih _ _ _ _ _)) fun c h => gT h (fun c h => gL h) fun c h => gL h) (by kernel_rfl)
theorem of_u34 (k : Nat) (m_ : List (T3).T) (r : R_u34) (h : f_u34 k m_ = some r) : C_u34 m_ r := by
  refine CC.of (fn := Tryz.f119) (by kernel_rfl) (by kernel_rfl) (by kernel_rfl) (by kernel_rfl) ?_
  unfold f_u34 at h
  exact go (mkK []) [] cs_u34 [.autoB [2] true []] (gT h (fun c h => gL h) fun c h => gC h 5 ((ev_u34 k m_ k) _ _ _ _ _)) (by kernel_rfl)
theorem cc_u34 {k : Nat} {m_ : List (T3).T} (h : (f_u34 k m_).isSome = true) : C_u34 m_ (v_u34 k m_) := ccG (Φ := C_u34 m_) h (of_u34 k m_)
abbrev R_u90 : Type := Int
def res_u90 (r : R_u90) : AV := .r (.v (.int .i64 r))
def bo_u90 (l_ : List (T21).T) (r : R_u90) : List (Nat × Blk) := []
def args_u90 (l_ : List (T21).T) : List AV := [.r (.ro T21 l_)]
def bin_u90 (l_ : List (T21).T) : List Blk := []
abbrev C_u90 (l_ : List (T21).T) (r : R_u90) : Prop := CC Tryz.prog 116 (args_u90 l_) (bin_u90 l_) (res_u90 r) (bo_u90 l_ r)
def st_u90_4 (y0 : List (T21).T) (y1 : Int) (y2 : Int) : St := ⟨mkS 30 [(8, .r (.ro T21 y0)), (9, .r (.v (.int .i64 y1))), (10, .r (.v (.int .i64 y2)))], []⟩
def f_u90_4 (k : Nat) : Nat → List (T21).T → Int → Int → Option R_u90
  | 0, _, _, _ => none
  | j + 1, y0, y1, y2 =>
  bif (decide (y2 < y1)) then
  if (0 ≤ y2) ∧ (y2 < (↑y0.length : Int)) then
  bif (decide ((y0.getD y2.toNat T21.dflt).1 < (0 : Int)) || decide ((y0.getD y2.toNat T21.dflt).1 > (y0.getD y2.toNat T21.dflt).2) || decide ((y0.getD y2.toNat T21.dflt).2 > (17179869184 : Int))) then
  some 1
  else
  f_u90_4 k j y0 y1 ((IntKind.i64.wrap (y2 + 1)))
  else none
  else
  some 0
def f_u90 (k : Nat) (l_ : List (T21).T) : Option R_u90 :=
  bif (decide ((↑l_.length : Int) > (256 : Int))) then
  some 8
  else
  f_u90_4 k k l_ ((↑l_.length : Int)) 0
def v_u90 (k : Nat) (l_ : List (T21).T) : R_u90 := (f_u90 k l_).getD 0
def ke_u90 (k : Nat) : Ke := (116, fun xs => match xs with
  | [_] => some [false]
  | _ => none, fun xs bs => match xs, bs with
  | [.r (.ro tl__ ql_)], [] => (castL tl__ T21 ql_).bind fun l_ => some (.one (res_u90 (v_u90 k l_), bo_u90 l_ (v_u90 k l_)))
  | _, _ => none)
def cs_u90 : List (Nat × List Cmd) := [(4, [.autoB [8, 9, 10] false []])]
abbrev E_u90 (l_ : List (T21).T) (todo : List Item) (st : St) (o : Option R_u90) : Prop := ∀ r, o = some r → Ev Tryz.prog Tryz.f116 0 todo st (res_u90 r) (bo_u90 l_ r)
theorem ev_u90 (k : Nat) (l_ : List (T21).T) : ∀ j, (∀ (y0 : List (T21).T) (y1 : Int) (y2 : Int), E_u90 l_ (placeAt Tryz.f116 4) (st_u90_4 y0 y1 y2) (f_u90_4 k j y0 y1 y2))
  | 0 => fun _ _ _ _ h => (nomatch h)
  | j + 1 => by
    have ih := @ev_u90 k l_ j
    · intro y0 y1 y2 r h
      rw [f_u90_4] at h
      exact go (mkK []) [] cs_u90 [.autoB [2] true []] (gT h (fun c h => gN2 h fun h => gT h (fun c h => gL h) fun c h => gC h 4 (ih _ _ _ _)) fun c h => gL h) (by kernel_rfl)
theorem of_u90 (k : Nat) (l_ : List (T21).T) (r : R_u90) (h : f_u90 k l_ = some r) : C_u90 l_ r := by
  refine CC.of (fn := Tryz.f116) (by kernel_rfl) (by kernel_rfl) (by kernel_rfl) (by kernel_rfl) ?_
  unfold f_u90 at h
  exact go (mkK []) [] cs_u90 [.autoB [2] true []] (gT h (fun c h => gL h) fun c h => gC h 4 ((ev_u90 k l_ k) _ _ _ _)) (by kernel_rfl)
theorem cc_u90 {k : Nat} {l_ : List (T21).T} (h : (f_u90 k l_).isSome = true) : C_u90 l_ (v_u90 k l_) := ccG (Φ := C_u90 l_) h (of_u90 k l_)

end
end Go.AM
namespace Go.AM
open Go

end Go.AM
namespace Go.AM
open Go Go.Proofs Go.Shelf Go.RowKit Go.Lib
variable {P : Program} {ρ : Ren}

/-- the memory has grown, and what lay there lies as it lay -/
structure Ext (w w' : World) : Prop where
  grew : Grew w w'
  frame : ∀ B, B < w.heap.size → w'.heap[B]? = w.heap[B]?
theorem Ext.refl (w : World) : Ext w w := ⟨.refl w, fun _ _ => rfl⟩
theorem Ext.trans {a b c : World} (h : Ext a b) (k : Ext b c) : Ext a c := ⟨h.grew.trans k.grew, fun B hB => (k.frame B (Nat.lt_of_lt_of_le hB h.grew.size)).trans (h.frame B hB)⟩
end Go.AM
namespace Go.AM
open Go Go.Proofs Go.Shelf Go.RowKit

section
variable {P : Program}
/-- nothing came in by reference; one block comes out -/
theorem mem_one {cx : Cx} {env : Env} {b : Blk} {h : Value} {w' : World} (hn : ∀ n, env n = none) (hh : ∀ n, ¬ cx.hid n) (hent : ∀ nm h, cx.ent nm = some h ↔ env nm = some (0, h))
    (hg : Grew cx.w0 w') (hfr : ∀ B, B < cx.w0.heap.size → w'.heap[B]? = cx.w0.heap[B]?) (hb : ∀ B, hblk h = some B → cx.w0.heap.size ≤ B ∧ B < w'.heap.size)
    (hr : RepB w' (okOf cx (env.put 0 0 h) w') (env.put 0 0 h) h b) : Mem cx (numB 0 [(0, b)]) w' (env.put 0 0 h) := by
  have nent : ∀ nm h0, cx.ent nm = some h0 → False := fun nm h0 e => by
    have := (hent nm h0).1 e
    rw [hn] at this; cases this
  have hput : ∀ nm v x, env.put 0 0 h nm = some (v, x) → nm = 0 ∧ v = 0 ∧ x = h := fun nm v x e => by
    unfold Env.put at e
    split at e
    · rename_i hn
      simp at e
      exact ⟨hn, e.1.symm, e.2.symm⟩
    · rw [hn] at e; cases e
  refine ⟨fun nm ver b' e => ?_, fun nm e _ => ?_, fun nm h => absurd h (hh nm), fun nm nm' v v' h h' B e e' _ _ => ?_, fun nm v h' B e hq => ?_, hg, fun B hB _ => hfr B hB, fun nm h h0 _ e0 => (nent nm h0 e0).elim, fun nm h0 e0 => (nent nm h0 e0).elim⟩
  · have hn : nm = 0 ∧ ver = 0 ∧ b' = b := by
      simp only [numB, getB] at e
      cases hq : Nat.beq 0 nm <;> simp only [hq, cond_true, cond_false] at e
      · cases e
      · have := Nat.eq_of_beq_eq_true hq
        simp at e
        exact ⟨this.symm, e.1.symm, e.2.symm⟩
    obtain ⟨rfl, rfl, rfl⟩ := hn
    exact ⟨h, by simp [Env.put], hr⟩
  · unfold Env.put
    split
    · rename_i hn
      subst hn
      simp [numB, getB] at e
    · exact hn nm
  · rw [(hput _ _ _ e).1, (hput _ _ _ e').1]
  · obtain ⟨rfl, rfl, rfl⟩ := hput _ _ _ e
    exact ⟨.inl (hb B hq).1, (hb B hq).2⟩

/-- a row of one's own, as the kit tells it -/
theorem repB_of_owns {w : World} {ok : Nat → Prop} {env : Env} {base : Nat} {e : TypeId} {τ : RTy} {l : List τ.T} {v : Value} {us : List Value} (hpos : 0 < τ.sz) (h : w.ownsRow base e τ.sz v l.length us) (hu : All2 (RepR w ok) us (encL τ l)) : RepB w ok env v (.row e τ l) ∧ ∀ B, hblk v = some B → base ≤ B ∧ B < w.heap.size := by
  obtain ⟨hl, ⟨rfl, h0⟩ | ⟨g, cap, cur, rfl, hg, hh, hcap, hmx, hs, ht⟩⟩ := h
  · have : l = [] := List.length_eq_zero_iff.1 h0
    subst this
    exact ⟨.rowNil _ _ _, fun B hB => by simp [hblk] at hB⟩
  · by_cases hc : cap = 0
    · have hl0 : l.length = 0 := by omega
      have : l = [] := List.length_eq_zero_iff.1 hl0
      subst this; subst hc
      exact ⟨.rowNil _ _ _, fun B hB => by simp [hblk] at hB⟩
    · refine ⟨.row g e τ l cap cur hh hcap (by omega) hmx hs fun k hk => ?_, fun B hB => ?_⟩
      · have := hu.get Go.undef .undef k (by rw [encL_length]; exact hk)
        rw [← ht] at this
        simpa [List.getElem?_take, hk] using this
      · rw [hblk_sl (by omega)] at hB
        simp at hB; subst hB
        exact ⟨hg, (Array.getElem?_eq_some_iff.1 hh).1⟩

open Go.RowKit Go.Lib in
set_option maxHeartbeats 2000000 in
set_option maxRecDepth 100000 in
/-- Clone of a slice of no elements, wherever it stands -/
theorem clone_empty {ρ : Ren} (L : SlLaysE0.n41 P ρ) (i0 : TypeInfo) (z : Value) (size bytes : Nat) (hi : P.info? (ρ.t 23) = some i0) (hz0 : i0.zero = some z) (hz1 : i0.size = size) (hz2 : i0.bytes = bytes) (hzs : z.cells.size = size) (hsz : 0 < size)
    (z23 : ∀ w, (Go.sizeOf (ρ.t 23)).run P w = .ok size w) (ad : Addr) (c : Nat) (w : World) :
    Calls P (ρ.f 41) #[.slice (some ad) 0 c] w fun e w' => ∃ v', e = .returned v' ∧ w'.ownsRow w.heap.size (ρ.t 23) size v' 0 [] ∧ Below w.heap.size w w' := by
  have mixed := L.mixed; have t4 := L.t4; have a4 := L.a4; have z4 := L.z4; have v4 := L.v4; have t22 := L.t22; have a22 := L.a22; have z22 := L.z22; have v22 := L.v22
  have q22 : ∀ (w : World) (a : Option Addr) (n c n' c' : Nat), (binOp .eql (ρ.t 22) (.slice a n c) (.slice none n' c')).run P w = .ok (.bool a.isNone) w := fun w a n c n' c' => Lib.run_eql_slice_nil w _ _ a n c n' c' L.t22
  have u22 : ∀ w, Sem.run P (underlying (ρ.t 22)) w = .ok (TypeDesc.slice (ρ.t 23)) w := run_underlying t22
  obtain ⟨_, _, FG⟩ := L.f41
  go_enter FG, SlBodyN.n41_ntmps ρ
  go_wp2_with (at_builtin; refine wpList_append_own _ rfl _ _ (ρ.t 22) rfl w.heap.size (ρ.t 23) i0 z size bytes t22 hi hz0 hz1 hz2 hzs hsz _ _ _ rfl (World.ownsRow_made w #[] 0 (Nat.le_refl _) (Nat.zero_le _) (by simp)) ad 0 c [] rfl ?qc1 ?qc2 ?qc3 ?qc4 ?qc5 ?qc6 ?_)
  case qc1 => simp
  case qc2 => intro j u hj; simp at hj
  case qc3 => intro u hu; simp at hu
  case qc4 => simp [maxLen]
  case qc5 => simp
  case qc6 => simp
  intro v' w1 hown hgrow hnil
  go_wp2
  go_ret
  refine ⟨v', rfl, by simpa using hown, ?_⟩
  exact ((Below.refl _ w).alloc (Nat.le_refl _) _).grown hgrow (by simp) (by intro k hk; simp [Value.ownBlock] at hk; omega)

theorem cc_clone [GT P] {ρ : Ren} (L : SlLaysE0.n41 P ρ) {τ : RTy} {i0 : TypeInfo} {z : Value} (hi : P.info? (ρ.t 23) = some i0) (hz0 : i0.zero = some z) (hz1 : i0.size = τ.sz) (hzs : z.cells.size = τ.sz) (hpos : 0 < τ.sz) (hby : 0 < i0.bytes) (z23 : ∀ w, (Go.sizeOf (ρ.t 23)).run P w = .ok τ.sz w)
    (hf : ∃ fn c, P.funcs[ρ.f 41]? = some fn ∧ fn.body = some c ∧ (fn.name == "runtime.NumGoroutine") = false) (l : List τ.T) (hbig : l.length * i0.bytes ≤ 140737488355328) : CC P (ρ.f 41) [.r (.ro τ l)] [] (.own 0 0) [(0, .row (ρ.t 23) τ l)] := by
  refine ⟨hf, fun cx env vs hwf hG hh hent hm hs hargs => ?_⟩
  have none : ∀ n, env n = none := fun n => hm.dom n rfl (hh n)
  have hvs : vs = #[vs.getD 0 Go.undef] := by
    refine Array.ext (by rw [hs]; rfl) fun i hi1 hi2 => ?_
    have : i = 0 := by simpa using hi2
    subst this
    simp [hi1]
  have hr := hargs 0 (by simp)
  simp only [List.getD_cons_zero] at hr
  rw [hvs]
  generalize vs.getD 0 Go.undef = u at hr
  have hlen : l.length ≤ maxLen := by
    have : l.length ≤ l.length * i0.bytes := Nat.le_mul_of_pos_right _ hby
    unfold maxLen; omega
  have fin : ∀ {v' : Value} {w' : World} {us : List Value}, w'.ownsRow cx.w0.heap.size (ρ.t 23) τ.sz v' l.length us → Below cx.w0.heap.size cx.w0 w' → All2 (RepR cx.w0 (okOf cx env cx.w0)) us (encL τ l) →
      ∃ v env', (Ending.returned v' : Ending) = .returned v ∧ Mem cx (numB 0 [(0, .row (ρ.t 23) τ l)]) w' env' ∧ Rep w' (okOf cx env' w') env' v (.own 0 0) := fun {v' w' us} ho hB hu => by
    have ok' : ∀ B, okOf cx env cx.w0 B → okOf cx (env.put 0 0 v') w' B := fun B ⟨h1, h2, h3⟩ => by
      refine ⟨h1, Nat.lt_of_lt_of_le h2 hB.size, fun nm ver h e q => ?_⟩
      unfold Env.put at e
      split at e
      · simp at e
        obtain ⟨rfl, rfl⟩ := e
        obtain ⟨_, ⟨rfl, _⟩ | ⟨g, cap, cur, rfl, hg, _⟩⟩ := ho
        · simp [hblk] at q
        · cases cap with
          | zero => simp [hblk] at q
          | succ c => simp [hblk] at q; omega
      · rw [none] at e; cases e
    have hu' : All2 (RepR w' (okOf cx (env.put 0 0 v') w')) us (encL τ l) := hu.mono fun _ _ h => h.mono ok' fun B o hB' => cell_of_heap (hB.block B hB'.2.1) o
    obtain ⟨h1, h2⟩ := repB_of_owns (env := env.put 0 0 v') hpos ho hu'
    exact ⟨v', env.put 0 0 v', rfl, mem_one none hh hent ⟨hB.size, hB.os, hB.output⟩ (fun B hB' => hB.block B hB') h2 h1, .own ⟨0, _, by simp [Env.put], Nat.le_refl _, fun _ => rfl⟩⟩
  have nilC : ∀ cap, l = [] → Calls P (ρ.f 41) #[.slice Option.none 0 cap] cx.w0 fun e w' => ∃ v env', e = .returned v ∧ Mem cx (numB 0 [(0, .row (ρ.t 23) τ l)]) w' env' ∧ Rep w' (okOf cx env' w') env' v (.own 0 0) := fun cap h0 => by
    refine (AnyE.slices_Clone_nil L 0 cap cx.w0).mono fun e w' ⟨he, hw⟩ => ?_
    subst hw; subst h0; subst he
    exact fin (us := []) ⟨by simp, .inl ⟨rfl, rfl⟩⟩ (Below.refl _ _) .nil
  have some_ : ∀ (B o cap : Nat) (us : List Value), us.length = l.length * τ.sz → (∀ k, k < l.length * τ.sz → cx.w0.cell? ⟨B, o + k, Option.none⟩ = some (us.getD k Go.undef)) → All2 (RepR cx.w0 (okOf cx env cx.w0)) us (encL τ l) →
      Calls P (ρ.f 41) #[.slice (some ⟨B, o, Option.none⟩) l.length cap] cx.w0 fun e w' => ∃ v env', e = .returned v ∧ Mem cx (numB 0 [(0, .row (ρ.t 23) τ l)]) w' env' ∧ Rep w' (okOf cx env' w') env' v (.own 0 0) := fun B o cap us h1 h2 h3 => by
    refine (AnyE.slices_Clone L i0 z τ.sz i0.bytes hi hz0 hz1 rfl hzs hpos z23 B o l.length cap us cx.w0 h1 hlen hbig (fun j u hu => ?_) (encL_oneCell τ l us h3)).mono fun e w' ⟨v', he, ho, _, hB⟩ => ?_
    · obtain ⟨hj, hv⟩ := List.getElem?_eq_some_iff.1 hu
      rw [h2 j (by omega)]
      simp [hj, hv]
    · subst he
      exact fin ho hB h3
  cases hr with
  | r h =>
    cases h with
    | nil _ a cap =>
      cases a with
      | none => exact nilC cap rfl
      | some a =>
        obtain ⟨B, o, q⟩ := a
        cases q with
        | none => exact some_ B o cap [] (by simp) (fun k hk => by simp at hk) .nil
        | some q =>
          refine (clone_empty L i0 z τ.sz i0.bytes hi hz0 hz1 rfl hzs hpos z23 ⟨B, o, some q⟩ cap cx.w0).mono fun e w' ⟨v', he, ho, hB⟩ => ?_
          subst he
          exact fin ho hB .nil
    | ro _ _ B o cap g hB hcap hc hr =>
      obtain ⟨us, h1, h2, h3⟩ := repR_cells (RepR.ro τ l B o cap g hB hcap hc hr)
      exact some_ B o cap us h1 h2 h3
end
end Go.AM
namespace Go.AM
open Go Go.Proofs Go.Shelf Go.RowKit Go.Sort

def valsL (τ : RTy) : List τ.T → List Value
  | [] => []
  | x :: l => vals τ x ++ valsL τ l
theorem encL_flat {τ : RTy} (hf : τ.flat = true) : ∀ l : List τ.T, encL τ l = (valsL τ l).map .v
  | [] => rfl
  | x :: l => by simp [encL, valsL, rvs_enc_flat τ x hf, encL_flat hf l]
theorem valsL_length {τ : RTy} (hf : τ.flat = true) (l : List τ.T) : (valsL τ l).length = l.length * τ.sz := by
  rw [← encL_length, encL_flat hf]; simp

theorem repR_v_inv' {w : World} {ok : Nat → Prop} {u x : Value} (h : RepR w ok u (.v x)) : u = x := by
  cases h; rfl

section
variable {P : Program}

/-- what a row of one's own may be, to a function that changes it where it stands -/
def InPlace (P : Program) [GT P] (f : FuncId) (τ : RTy) (e : TypeId) (l l' : List τ.T) (ys : List Value) : Prop :=
  (l = [] → ∀ (w : World) (a : Option Addr), GT.G P w → Calls P f (.slice a 0 0 :: ys).toArray w fun en w' => en = .returned (.tuple #[]) ∧ Grew w w' ∧ ∀ B, B < w.heap.size → w'.heap[B]? = w.heap[B]?) ∧
  ∀ (w : World) (B cap : Nat) (cur : Array Value), GT.G P w → w.heap[B]? = some (.cells cur e (0, 0)) → l.length ≤ cap → 0 < cap → cap ≤ maxLen → cur.size = cap * τ.sz → (∀ k, k < l.length * τ.sz → cur.getD k Go.undef = (valsL τ l).getD k Go.undef) →
    Calls P f (.slice (some ⟨B, 0, none⟩) l.length cap :: ys).toArray w fun en w' => en = .returned (.tuple #[]) ∧ Grew w w' ∧ (∀ B', B' < w.heap.size → B' ≠ B → w'.heap[B']? = w.heap[B']?) ∧
      ∃ cur', w'.heap[B]? = some (.cells cur' e (0, 0)) ∧ cur'.size = cur.size ∧ ∀ k, k < l.length * τ.sz → cur'.getD k Go.undef = (valsL τ l').getD k Go.undef

theorem cc_inplace [GT P] {f : FuncId} {τ : RTy} {e : TypeId} {l l' : List τ.T} (hflat : τ.flat = true) (hlen : l'.length = l.length) {xs : List AV} {ys : List Value} (hxl : xs.length = ys.length)
    (hx : ∀ (w : World) (ok : Nat → Prop) (env : Env) (u : Value) (i : Nat), i < xs.length → Rep w ok env u (xs.getD i .undef) → u = ys.getD i Go.undef)
    (hf : ∃ fn c, P.funcs[f]? = some fn ∧ fn.body = some c ∧ (fn.name == "runtime.NumGoroutine") = false) (h : InPlace P f τ e l l' ys) :
    CC P f (.own 0 0 :: xs) [.row e τ l] (.tup []) [(0, .row e τ l')] := by
  refine ⟨hf, fun cx env vs hwf hG hh hent hm hs hargs => ?_⟩
  obtain ⟨top, h1, h2, h3, h4⟩ := hG
  have hG := GT.keep _ _ h3 h1
  obtain ⟨u, heu, hrep⟩ := hm.blk 0 0 (.row e τ l) rfl
  have hvs : vs = (u :: ys).toArray := by
    refine Array.ext (by rw [hs]; simp [hxl]) fun i hi hi2 => ?_
    have hi3 : i < xs.length + 1 := by rw [hs] at hi; simpa using hi
    have hr := hargs i (by simpa using hi3)
    cases i with
    | zero =>
      simp only [List.getD_cons_zero] at hr
      have : vs.getD 0 Go.undef = u := by
        generalize vs.getD 0 Go.undef = z at hr
        cases hr with
        | own hR =>
          obtain ⟨cv, x, e1, e2, e3⟩ := hR
          rw [heu] at e1
          simp at e1
          obtain ⟨rfl, rfl⟩ := e1
          exact e3 rfl
      simp [hi] at this
      simpa using this
    | succ i =>
      simp only [List.getD_cons_succ] at hr
      have := hx _ _ _ _ i (by omega) hr
      have hi4 : i < ys.length := by omega
      simp [hi, hi4] at this
      simpa using this
  subst hvs
  have upd : ∀ {w' : World}, Grew cx.w0 w' → (∀ B, B < cx.w0.heap.size → hblk u ≠ some B → w'.heap[B]? = cx.w0.heap[B]?) → RepB w' (okOf cx (env.put 0 0 u) w') (env.put 0 0 u) u (.row e τ l') →
      ∃ v env', (Ending.returned (.tuple #[]) : Ending) = .returned v ∧ Mem cx (numB 0 [(0, .row e τ l')]) w' env' ∧ Rep w' (okOf cx env' w') env' v (.tup []) := fun {w'} hg hk hr => by
    have T := mem_upd (ver := 0) (b := .row e τ l') hm (hh 0) ⟨⟨.inr ⟨0, u, heu, .inr ⟨rfl, rfl⟩⟩, hg, fun B hB hq => hk B hB (hq 0 u heu), fun B q => .inr ⟨0, u, heu, q⟩⟩, hr⟩
    exact ⟨_, _, rfl, T.mem, .tup _ _ rfl fun i hi => by simp at hi⟩
  generalize hb : Blk.row e τ l = b at hrep
  cases hrep with
  | rowNil _ _ a =>
    cases hb
    refine (h.1 rfl cx.w0 a hG).mono fun en w' ⟨he, hg, hk⟩ => ?_
    subst he
    refine upd hg (fun B hB _ => hk B hB) ?_
    have : l' = [] := List.length_eq_zero_iff.1 hlen
    subst this
    exact .rowNil _ _ _
  | row B _ _ _ cap cur hB hcap h0 hmx hsz hc =>
    cases hb
    refine (h.2 cx.w0 B cap cur hG hB hcap h0 hmx hsz fun k hk => ?_).mono fun en w' ⟨he, hg, hk, cur', hB', hs', hc'⟩ => ?_
    · have := hc k hk
      rw [encL_flat hflat] at this
      have hk2 : k < (valsL τ l).length := by rw [valsL_length hflat]; exact hk
      have e1 : ((valsL τ l).map RV.v).getD k .undef = .v ((valsL τ l).getD k Go.undef) := by simp [hk2]
      rw [e1] at this
      exact repR_v_inv' this
    · subst he
      have hhb : hblk (.slice (some ⟨B, 0, none⟩) l.length cap) = some B := hblk_sl h0
      refine upd hg (fun B' hB2 hq => hk B' hB2 fun q => hq (by rw [hhb, q])) ?_
      have R := RepB.row (env := env.put 0 0 (.slice (some ⟨B, 0, none⟩) l.length cap)) (ok := okOf cx (env.put 0 0 (.slice (some ⟨B, 0, none⟩) l.length cap)) w') B e τ l' cap cur' hB' (by omega) h0 hmx (by rw [hs', hsz]) fun k hk => by
        rw [hlen] at hk
        rw [hc' k hk, encL_flat hflat]
        have hk2 : k < (valsL τ l').length := by rw [valsL_length hflat, hlen]; exact hk
        simp [hk2]
        exact .v _
      rw [hlen] at R
      exact R
  | _ => cases hb

theorem cell_holds {w : World} {B : Nat} {cur : Array Value} {e : TypeId} (hB : w.heap[B]? = some (.cells cur e (0, 0))) {F : Array Value} (hs : F.size ≤ cur.size) (h : ∀ k, k < F.size → cur.getD k Go.undef = F.getD k Go.undef) : Holds id w B 0 F := fun j hj => by
  have hj2 : j < cur.size := by omega
  refine ⟨?_, ?_⟩
  · have := h j hj
    simp [hj, hj2] at this
    unfold World.cell?
    simp [hB, hj2, this, hj]
  · unfold World.frozen?
    simp [hB]

theorem putRow_block {w : World} {B : Nat} {cur : Array Value} {e : TypeId} (n : Nat) (hB : w.heap[B]? = some (.cells cur e (0, 0))) (F : Array Value) (os : Array Obj) (hs : F.size ≤ cur.size) :
    let w' := grow (putRow id (Sort.ahead w n) B 0 F) os
    Grew w w' ∧ (∀ B', B' < w.heap.size → B' ≠ B → w'.heap[B']? = w.heap[B']?) ∧ ∃ cur', w'.heap[B]? = some (.cells cur' e (0, 0)) ∧ cur'.size = cur.size ∧ ∀ k, k < F.size → cur'.getD k Go.undef = F.getD k Go.undef := by
  have hlt : B < w.heap.size := (Array.getElem?_eq_some_iff.1 hB).1
  have hsz : (putRow id (Sort.ahead w n) B 0 F).heap.size = w.heap.size := by simp [putRow, mapBlock, Sort.ahead]
  have hget : ∀ B', B' < w.heap.size → (grow (putRow id (Sort.ahead w n) B 0 F) os).heap[B']? = (w.heap.modify B (onCells (putCells id 0 F)))[B']? := fun B' hB' => by
    show (_ ++ os)[B']? = _
    rw [Array.getElem?_append_left (by rw [hsz]; exact hB')]
    rfl
  refine ⟨⟨?_, rfl, rfl⟩, fun B' hB' hne => ?_, putCells id 0 F cur, ?_, by simp [putCells], fun k hk => ?_⟩
  · show _ ≤ (_ ++ os).size
    simp [hsz]
  · rw [hget B' hB', Array.getElem?_modify]
    simp [Ne.symm hne]
  · rw [hget B hlt, Array.getElem?_modify]
    simp [hB, onCells]
  · have : k < cur.size := by omega
    simp [putCells, this, hk]

/-- slices.Sort at ints -/
theorem cc_sort_int [GT P] {ρ : Ren} (L : Lays.n189 P ρ) (hf : ∃ fn c, P.funcs[ρ.f 189]? = some fn ∧ fn.body = some c ∧ (fn.name == "runtime.NumGoroutine") = false) (e : TypeId) (l : List Int) (hb : l.length < 4611686018427387904) :
    CC P (ρ.f 189) [.own 0 0] [.row e (.int .i64) l] (.tup []) [(0, .row e (.int .i64) (l.mergeSort fun x y => decide (x ≤ y)))] := by
  have hv : ∀ l : List Int, valsL (.int .i64) l = l.map (Value.int .i64) := fun l => by
    induction l with
    | nil => rfl
    | cons x l ih => simp [valsL, vals, ih]
  refine cc_inplace (τ := .int .i64) (e := e) (l := l) (xs := []) (ys := []) rfl (List.length_mergeSort l) rfl (fun _ _ _ _ i hi => by simp at hi) hf ⟨fun _ w a _ => ?_, fun w B cap cur hG hB hcap h0 hmx hsz hc => ?_⟩
  · refine (Any.slices_Sort_int_none L a 0 w).mono fun en w' ⟨he, hw⟩ => ⟨he, ?_⟩
    subst hw
    exact ⟨Grew.refl _, fun _ _ => rfl⟩
  · have hsz' : cur.size = cap := by rw [hsz]; simp [RTy.sz]
    have hF : Holds (Value.int .i64) w B 0 l.toArray := fun j hj => by
      have hj : j < l.length := by simpa using hj
      have := (cell_holds hB (F := (l.map (Value.int .i64)).toArray) (by simp; omega) fun k hk => by
        have hk : k < l.length := by simpa using hk
        have := hc k (by simpa [RTy.sz] using hk)
        rw [hv] at this
        simpa using this) j (by simpa using hj)
      simpa [hj] using this
    refine (Any.slices_Sort_int L B 0 cap l w hF (Array.getElem?_eq_some_iff.1 hB).1 hb).mono fun en w' ⟨he, n, os, hw⟩ => ⟨he, ?_⟩
    have e0 : ∀ m : List Int, putRow (Value.int .i64) (Sort.ahead w n) B 0 m.toArray = putRow id (Sort.ahead w n) B 0 (m.map (Value.int .i64)).toArray := fun m => by
      unfold putRow
      congr 1
      funext c
      unfold putCells
      refine Array.ext (by simp) fun i h1 h2 => ?_
      by_cases q : i < m.length
      · simp [q]
      · simp [q]
    rw [e0] at hw
    subst hw
    have := putRow_block n hB ((l.mergeSort fun x y => decide (x ≤ y)).map (Value.int .i64)).toArray os (by simp; omega)
    refine ⟨this.1, this.2.1, ?_⟩
    obtain ⟨cur', h1, h2, h3⟩ := this.2.2
    refine ⟨cur', h1, h2, fun k hk => ?_⟩
    rw [h3 k (by simpa [RTy.sz] using hk), hv]
    simp
end
end Go.AM
namespace Go.AM
open Go Go.Proofs Go.Shelf Go.RowKit Go.Sort
section
variable {P : Program}

theorem flatK_valsL {α : Type} [Inhabited α] {τ : RTy} (hf : τ.flat = true) (dec : α → τ.T) (hpos : 0 < τ.sz) (d : Array α) :
    Sort.flatK (fun a => vals τ (dec a)) τ.sz d = (valsL τ (d.toList.map dec)).toArray := by
  have hl : ∀ (l : List α) (j i : Nat), j < l.length → i < τ.sz → (valsL τ (l.map dec)).getD (j * τ.sz + i) Go.undef = (vals τ (dec (l.getD j default))).getD i Go.undef := fun l => by
    induction l with
    | nil => intro j i h; simp at h
    | cons x l ih =>
      intro j i hj hi
      have hv := vals_length τ (dec x) hf
      cases j with
      | zero => simp [valsL, List.getElem?_append, hv, hi]
      | succ j =>
        have := ih j i (by simpa using hj) hi
        have e1 : (j + 1) * τ.sz + i - τ.sz = j * τ.sz + i := by rw [Nat.succ_mul]; omega
        have e2 : ¬ (j + 1) * τ.sz + i < τ.sz := by rw [Nat.succ_mul]; omega
        simpa [valsL, List.getElem?_append, hv, e1, e2] using this
  refine ext_get! (by simp [Sort.size_flatK, valsL_length hf]) fun t ht => ?_
  have ht' : t < d.size * τ.sz := by simpa using ht
  rw [Sort.get_flatK _ _ _ _ ht']
  have hd : t / τ.sz < d.size := Nat.div_lt_of_lt_mul (by rw [Nat.mul_comm]; exact ht')
  have := hl d.toList (t / τ.sz) (t % τ.sz) (by simpa using hd) (Nat.mod_lt _ hpos)
  rw [Nat.mul_comm, Nat.div_add_mod] at this
  have h2 : t < (valsL τ (d.toList.map dec)).length := by rw [valsL_length hf]; simpa using ht'
  have h3 : t % τ.sz < (vals τ (dec (d.toList.getD (t / τ.sz) default))).length := by rw [vals_length _ _ hf]; exact Nat.mod_lt _ hpos
  have e4 : d[t / τ.sz]! = d.toList.getD (t / τ.sz) default := by simp [hd]
  rw [e4, getElem!_pos (valsL τ (d.toList.map dec)).toArray t (by simpa using h2)]
  show (vals τ (dec (d.toList.getD (t / τ.sz) default)))[t % τ.sz]! = _
  rw [getElem!_pos (vals τ (dec (d.toList.getD (t / τ.sz) default))) (t % τ.sz) h3]
  rw [List.getD_eq_getElem?_getD, List.getD_eq_getElem?_getD, List.getElem?_eq_getElem h2, List.getElem?_eq_getElem h3] at this
  simpa using this.symm

/-- slices.SortFunc at structs of plain data -/
theorem cc_sortFunc [GT P] {ρ : Ren} (L : SlLaysF0.n6 P ρ) (hf : ∃ fn c, P.funcs[ρ.f 6]? = some fn ∧ fn.body = some c ∧ (fn.name == "runtime.NumGoroutine") = false) {τ : RTy} (hflat : τ.flat = true) (hpos : 0 < τ.sz)
    (aE : ∀ w, (isAgg (ρ.t 24)).run P w = .ok true w) (zE : ∀ w, (Go.sizeOf (ρ.t 24)).run P w = .ok τ.sz w) (e : TypeId) {α : Type} [Inhabited α] (dec : α → τ.T) (cf : α → α → Int) (hO : SWO (ltOf cf)) (g : Nat)
    (eg : ∀ args w, (callFunc g args).run P w = .ok (.enter g args) w) (hcmp : ∀ blk n w, CmpLays P g #[] (fun a => vals τ (dec a)) τ.sz cf blk 0 n w) (d : Array α) (hsz : d.size < 4611686018427387904) (h1 : ∀ x, ∀ v ∈ vals τ (dec x), v.oneCell' = true) :
    CC P (ρ.f 6) [.own 0 0, .r (.v (.func (.func g) #[] #[]))] [.row e τ (d.toList.map dec)] (.tup []) [(0, .row e τ ((pdq (ltOf cf) d 0 d.size (Lib.bitLen d.size) true true).toList.map dec))] := by
  have hp := pdq_sorts (ltOf cf) hO d 0 d.size (Lib.bitLen d.size) true true (Nat.zero_le _) (Nat.le_refl _) (Or.inl rfl)
  have hps : (pdq (ltOf cf) d 0 d.size (Lib.bitLen d.size) true true).size = d.size := hp.1.1
  refine cc_inplace (τ := τ) (e := e) (xs := [.r (.v (.func (.func g) #[] #[]))]) (ys := [.func (.func g) #[] #[]]) hflat (by simp [hps]) rfl (fun _ _ _ u i hi hr => ?_) hf ⟨fun h0 w a _ => ?_, fun w B cap cur hG hB hcap h0 hmx hs hc => ?_⟩
  · have : i = 0 := by simpa using hi
    subst this
    simp only [List.getD_cons_zero] at hr ⊢
    exact rep_v_inv hr
  · refine (AnyF.slices_SortFunc_none L a 0 _ w).mono fun en w' ⟨he, hw⟩ => ⟨he, ?_⟩
    subst hw
    exact ⟨Grew.refl _, fun _ _ => rfl⟩
  · have hl : (d.toList.map dec).length = d.size := by simp
    rw [hl] at hc hcap ⊢
    have hle : d.size * τ.sz ≤ cur.size := by rw [hs]; exact Nat.mul_le_mul_right _ hcap
    have hF : HoldsK (fun a => vals τ (dec a)) τ.sz w B 0 d := by
      unfold HoldsK
      rw [flatK_valsL hflat dec hpos]
      refine cell_holds hB (by simp [valsL_length hflat]; exact hle) fun k hk => ?_
      have hk : k < d.size * τ.sz := by simpa [valsL_length hflat] using hk
      rw [hc k hk]
      simp
    refine (AnyQ.slices_SortFunc_eq L τ.sz aE zE (fun a => vals τ (dec a)) (fun x => vals_length _ _ hflat) h1 cf hO g #[] B 0 cap d w eg (hcmp _ _ _) hF (Array.getElem?_eq_some_iff.1 hB).1 hsz).mono fun en w' ⟨he, n, os, hw⟩ => ⟨he, ?_⟩
    unfold sortWorldK putRowK at hw
    rw [flatK_valsL hflat dec hpos] at hw
    subst hw
    have hls : (valsL τ ((pdq (ltOf cf) d 0 d.size (Lib.bitLen d.size) true true).toList.map dec)).length = d.size * τ.sz := by rw [valsL_length hflat]; simp [hps]
    have := putRow_block n hB (valsL τ ((pdq (ltOf cf) d 0 d.size (Lib.bitLen d.size) true true).toList.map dec)).toArray os (by simp [hls]; exact hle)
    refine ⟨this.1, this.2.1, ?_⟩
    obtain ⟨cur', h1, h2, h3⟩ := this.2.2
    refine ⟨cur', h1, h2, fun k hk => ?_⟩
    rw [h3 k (by simpa [hls] using hk)]
    simp
end
end Go.AM
namespace Go.AM
open Go Go.Proofs Go.Shelf Go.RowKit Go.Sort
section
variable {P : Program}
/-- plain arguments; a fresh row of one's own comes out -/
theorem cc_fresh [GT P] {f : FuncId} {xs : List Value} {e : TypeId} {τ : RTy} {l : List τ.T} (hf : ∃ fn c, P.funcs[f]? = some fn ∧ fn.body = some c ∧ (fn.name == "runtime.NumGoroutine") = false)
    (h : ∀ w : World, GT.G P w → Calls P f xs.toArray w fun en w' => ∃ v, en = .returned v ∧ Grew w w' ∧ (∀ B, B < w.heap.size → w'.heap[B]? = w.heap[B]?) ∧ (∀ ok env, RepB w' ok env v (.row e τ l)) ∧ ∀ B, hblk v = some B → w.heap.size ≤ B ∧ B < w'.heap.size) :
    CC P f (rvals xs) [] (.own 0 0) [(0, .row e τ l)] := by
  refine ⟨hf, fun cx env vs hwf hG hh hent hm hs hargs => ?_⟩
  obtain ⟨top, h1, h2, h3, h4⟩ := hG
  have hlen : ∀ l : List Value, (rvals l).length = l.length := fun l => by induction l <;> simp [rvals, *]
  have hget : ∀ (l : List Value) (i : Nat), i < l.length → (rvals l).getD i .undef = .r (.v (l.getD i Go.undef)) := fun l => by
    induction l with
    | nil => intro i h; simp at h
    | cons x l ih =>
      intro i h
      cases i with
      | zero => rfl
      | succ i => simpa [rvals] using ih i (by simpa using h)
  have hvs : vs = xs.toArray := by
    refine Array.ext (by rw [hs, hlen]; simp) fun i hi hi2 => ?_
    have hi3 : i < xs.length := by simpa using hi2
    have := hargs i (by rw [hlen]; exact hi3)
    rw [hget xs i hi3] at this
    have := rep_v_inv this
    simpa [hi, hi3] using this
  subst hvs
  have none : ∀ n, env n = none := fun n => hm.dom n rfl (hh n)
  refine (h cx.w0 (GT.keep _ _ h3 h1)).mono fun en w' ⟨v, he, hg, hfr, hr, hb⟩ => ?_
  exact ⟨v, env.put 0 0 v, he, mem_one none hh hent hg hfr hb (hr _ _), .own ⟨0, _, by simp [Env.put], Nat.le_refl _, fun _ => rfl⟩⟩

/-- slices.Grow of nil -/
theorem cc_grow [GT P] {ρ : Ren} (L : Lays8.n4 P ρ) (hf : ∃ fn c, P.funcs[ρ.f 4]? = some fn ∧ fn.body = some c ∧ (fn.name == "runtime.NumGoroutine") = false) (i0 : TypeInfo) (z : Value) (hi0 : P.info? (ρ.t 25) = some i0) (hz0 : i0.zero = some z) (τ : RTy) (hs : i0.size = τ.sz) (hzs : z.cells.size = τ.sz) (hpos : 0 < τ.sz) (hby : 0 < i0.bytes)
    (n : Nat) (hbig : n * i0.bytes ≤ 140737488355328) : CC P (ρ.f 4) [.r (.v (.slice none 0 0)), .r (.v (.int .i64 n))] [] (.own 0 0) [(0, .row (ρ.t 25) τ [])] := by
  have hn : n ≤ 140737488355328 := Nat.le_trans (Nat.le_mul_of_pos_right _ hby) hbig
  refine cc_fresh (xs := [.slice none 0 0, .int .i64 n]) hf fun w _ => ?_
  by_cases h0 : n = 0
  · subst h0
    refine (Any8.slices_Grow_room L none 0 0 0 w (Nat.le_refl _) (by omega) (by omega) (by omega)).mono fun en w' ⟨he, hw⟩ => ?_
    subst hw
    exact ⟨_, he, Grew.refl _, fun _ _ => rfl, fun _ _ => .rowNil _ _ _, fun B hB => by simp [hblk] at hB⟩
  · refine (Any8.slices_Grow_grow L i0 z hi0 hz0 (by omega) none 0 0 n [] w (Nat.le_refl _) (by omega) (by simpa using hbig) (by omega) (by simp) (fun _ => rfl) (fun a ha => by cases ha)).mono fun en w' ⟨he, hw⟩ => ?_
    have hge := grownCap_ge w (0 + n) 0 (ρ.t 25)
    have hm := grownCap_le_maxLen w (0 + n) 0 (ρ.t 25) (by unfold maxLen; omega)
    subst hw
    refine ⟨_, he, ⟨?_, rfl, rfl⟩, fun B hB => ?_, fun ok env => ?_, fun B hB => ?_⟩
    · show w.heap.size ≤ (w.heap.push _).size
      simp
    · show (w.heap.push _)[B]? = _
      rw [Array.getElem?_push]
      simp; omega
    · refine .row w.heap.size (ρ.t 25) τ [] _ _ (heap_alloc_new w.drew _) (Nat.zero_le _) (by omega) hm ?_ fun k hk => by simp at hk
      simp only [Nat.zero_add] at hge ⊢
      simp [size_zeroCells, hzs, ← Nat.add_mul]
      congr 1
      omega
    · rw [hblk_sl (by omega)] at hB
      simp at hB
      subst hB
      refine ⟨Nat.le_refl _, ?_⟩
      show _ < (w.heap.push _).size
      simp
end
end Go.AM
namespace Go.AM
open Go Go.Proofs Go.Shelf Go.RowKit Go.Sort

/-- what is asked of an element's type -/
def elemOk (P : Program) (t : TypeId) (sz b : Nat) : Bool :=
  match P.info? t with
  | some i => match i.zero with
    | some z => Nat.beq i.size sz && (Nat.beq z.cells.size sz && (Nat.beq i.bytes b && (Nat.blt 0 sz && Nat.blt 0 b)))
    | none => false
  | none => false
theorem elemOk_spec {P : Program} {t : TypeId} {sz b : Nat} (h : elemOk P t sz b = true) : ∃ i z, P.info? t = some i ∧ i.zero = some z ∧ i.size = sz ∧ z.cells.size = sz ∧ i.bytes = b ∧ 0 < sz ∧ 0 < b := by
  unfold elemOk at h
  split at h
  · rename_i i hi
    split at h
    · rename_i z hz
      simp only [Bool.and_eq_true] at h
      exact ⟨i, z, hi, hz, Nat.eq_of_beq_eq_true h.1, Nat.eq_of_beq_eq_true h.2.1, Nat.eq_of_beq_eq_true h.2.2.1, Nat.le_of_ble_eq_true h.2.2.2.1, Nat.le_of_ble_eq_true h.2.2.2.2⟩
    · cases h
  · cases h

section
variable {P : Program}
theorem cc_clone' [GT P] {ρ : Ren} (L : SlLaysE0.n41 P ρ) {τ : RTy} {b : Nat} (he : elemOk P (ρ.t 23) τ.sz b = true) (z23 : ∀ w, (Go.sizeOf (ρ.t 23)).run P w = .ok τ.sz w)
    (hf : ∃ fn c, P.funcs[ρ.f 41]? = some fn ∧ fn.body = some c ∧ (fn.name == "runtime.NumGoroutine") = false) (l : List τ.T) (hbig : l.length * b ≤ 140737488355328) : CC P (ρ.f 41) [.r (.ro τ l)] [] (.own 0 0) [(0, .row (ρ.t 23) τ l)] := by
  obtain ⟨i, z, h1, h2, h3, h4, h5, h6, h7⟩ := elemOk_spec he
  subst h5
  exact cc_clone L h1 h2 h3 h4 h6 h7 z23 hf l hbig
theorem cc_grow' [GT P] {ρ : Ren} (L : Lays8.n4 P ρ) (hf : ∃ fn c, P.funcs[ρ.f 4]? = some fn ∧ fn.body = some c ∧ (fn.name == "runtime.NumGoroutine") = false) (τ : RTy) {b : Nat} (he : elemOk P (ρ.t 25) τ.sz b = true)
    (n : Int) (h0 : 0 ≤ n) (hbig : n.toNat * b ≤ 140737488355328) : CC P (ρ.f 4) [.r (.v (.slice none 0 0)), .r (.v (.int .i64 n))] [] (.own 0 0) [(0, .row (ρ.t 25) τ [])] := by
  obtain ⟨i, z, h1, h2, h3, h4, h5, h6, h7⟩ := elemOk_spec he
  subst h5
  obtain ⟨m, rfl⟩ := Int.eq_ofNat_of_zero_le h0
  exact cc_grow L hf i z h1 h2 τ h3 h4 h6 h7 m (by simpa using hbig)

/-- ints that a comparison by difference takes -/
def SmallI (x : Int) : Prop := 0 ≤ x ∧ x ≤ 4611686018427387904
instance (x : Int) : Decidable (SmallI x) := inferInstanceAs (Decidable (_ ∧ _))
abbrev SPair : Type := {x : Int × Int // SmallI x.1}
instance : Inhabited SPair := ⟨⟨(0, 0), by decide⟩⟩
def toSP : List (Int × Int) → List SPair
  | [] => []
  | x :: l => if h : SmallI x.1 then ⟨x, h⟩ :: toSP l else toSP l
theorem toSP_val : ∀ l : List (Int × Int), (∀ x ∈ l, SmallI x.1) → (toSP l).map (·.1) = l
  | [], _ => rfl
  | x :: l, h => by
    have h1 : SmallI x.1 := h x (by simp)
    simp [toSP, h1, toSP_val l fun y hy => h y (by simp [hy])]
def spCmp (x y : SPair) : Int := x.1.1 - y.1.1
theorem spCmp_lt (x y : SPair) : ltOf spCmp x y = decide (x.1.1 < y.1.1) := by
  unfold ltOf spCmp
  by_cases h : x.1.1 < y.1.1
  · rw [decide_eq_true h, decide_eq_true (by omega)]
  · rw [decide_eq_false h, decide_eq_false (by omega)]
theorem spCmp_swo : SWO (ltOf spCmp) where
  irrefl x := by rw [spCmp_lt]; simp
  trans x y z h1 h2 := by rw [spCmp_lt] at *; rw [decide_eq_true_iff] at *; omega
  ntrans x y z h1 h2 := by rw [spCmp_lt] at *; rw [decide_eq_false_iff_not] at *; omega
/-- pairs by their first numbers, as Go's sort lays them -/
def sortSP (l : List (Int × Int)) : List (Int × Int) := (pdq (ltOf spCmp) (toSP l).toArray 0 (toSP l).toArray.size (Lib.bitLen (toSP l).toArray.size) true true).toList.map (·.1)
end

theorem perm_sortSP {l : List (Int × Int)} (h : ∀ x ∈ l, SmallI x.1) : (sortSP l).Perm l := by
  have hp := (pdq_sorts (ltOf spCmp) spCmp_swo (toSP l).toArray 0 (toSP l).toArray.size (Lib.bitLen (toSP l).toArray.size) true true (Nat.zero_le _) (Nat.le_refl _) (Or.inl rfl)).1
  have h3 := hp.2.2
  have e1 : ∀ (d : Array SPair) (n : Nat), d.size = n → d.extract 0 n = d := fun d n hn => by subst hn; exact Array.extract_size
  rw [e1 _ _ hp.1, e1 _ _ rfl] at h3
  have := h3.map (fun x : SPair => x.1)
  unfold sortSP
  refine this.trans ?_
  show (List.map (fun x : SPair => x.1) (toSP l)).Perm l
  rw [toSP_val l h]

theorem sorted_sortSP {l : List (Int × Int)} : (sortSP l).Pairwise fun x y => x.1 ≤ y.1 := by
  have hp := pdq_sorts (ltOf spCmp) spCmp_swo (toSP l).toArray 0 (toSP l).toArray.size (Lib.bitLen (toSP l).toArray.size) true true (Nat.zero_le _) (Nat.le_refl _) (Or.inl rfl)
  have hs := hp.1.1
  have h := hp.2
  unfold sortSP
  generalize pdq (ltOf spCmp) (toSP l).toArray 0 (toSP l).toArray.size (Lib.bitLen (toSP l).toArray.size) true true = d at hs h
  rw [List.pairwise_map, List.pairwise_iff_getElem]
  intro i j hi hj hij
  have := h i j (Nat.zero_le _) hij (by rw [← hs]; simpa using hj)
  have hi' : i < d.size := by simpa using hi
  have hj' : j < d.size := by simpa using hj
  rw [getElem!_pos d i hi', getElem!_pos d j hj'] at this
  rw [spCmp_lt, decide_eq_false_iff_not] at this
  simp only [Array.getElem_toList]
  omega
/-! ### sorting of few, so that the kernel can run it -/
def srtI (l : List Int) : List Int := match l with
  | [] => []
  | [a] => [a]
  | [a, b] => bif decide (a ≤ b) then [a, b] else [b, a]
  | l => l.mergeSort fun x y => decide (x ≤ y)
theorem srtI_eq (l : List Int) : srtI l = l.mergeSort fun x y => decide (x ≤ y) := by
  unfold srtI
  split
  · simp
  · simp
  · rename_i a b
    have hp := List.mergeSort_perm [a, b] (fun x y => decide (x ≤ y))
    have hs := List.pairwise_mergeSort (le := fun x y : Int => decide (x ≤ y)) (fun a b c h1 h2 => by simp at h1 h2 ⊢; omega) (fun a b => by simp; omega) [a, b]
    generalize List.mergeSort [a, b] (fun x y => decide (x ≤ y)) = q at hp hs
    have hl := hp.length_eq
    match q, hl with
    | [c, d], _ =>
      simp at hs
      have h1 : c = a ∨ c = b := by simpa using hp.subset (by simp : c ∈ [c, d])
      have h2 : d = a ∨ d = b := by simpa using hp.subset (by simp : d ∈ [c, d])
      have h3 : a = c ∨ a = d := by simpa using hp.symm.subset (by simp : a ∈ [a, b])
      have h4 : b = c ∨ b = d := by simpa using hp.symm.subset (by simp : b ∈ [a, b])
      cases h : decide (a ≤ b)
      · have h' := of_decide_eq_false h
        rw [cond_false]
        have : c = b ∧ d = a := by omega
        rw [this.1, this.2]
      · have h' := of_decide_eq_true h
        rw [cond_true]
        have : c = a ∧ d = b := by omega
        rw [this.1, this.2]
  · rfl
def srtSP (l : List (Int × Int)) : List (Int × Int) := match l with
  | [] => []
  | [a] => [a]
  | l => sortSP l
theorem srtSP_eq {l : List (Int × Int)} (h : ∀ x ∈ l, SmallI x.1) : srtSP l = sortSP l := by
  unfold srtSP
  split
  · have := (perm_sortSP (l := []) (by simp)).length_eq
    exact (List.length_eq_zero_iff.1 this).symm
  · rename_i a
    exact (List.perm_singleton.1 (perm_sortSP h)).symm
  · rfl
end Go.AM
/-
  DERIVED: THE SHELF's CONTRACTS AT THIS DUMP, IN PLAIN WORDS (tools/lay-plain.mjs out of 'TryShelf.lean', which tools/lay-shelf.mjs wrote): THE SAME DECLARATIONS UNDER THE SAME NAMES: 'import', 'namespace', 'open', 'def', 'theorem' AND NOTHING ELSE: no command of the shelf's: FOR A HAND-IN. Each laying: the table of numbers ('.._ren') and one theorem, a field a fact of the dump's own or the kernel's comparison; each contract: ONE APPLICATION.
-/
namespace Go.Proofs
open Go.Shelf
def Tryz.sort_int_ren : Go.Shelf.Ren := ⟨fun | 189 => 246 | 125 => 213 | 257 => 274 | 128 => 255 | 129 => 236 | 294 => 282 | 295 => 283 | 296 => 284 | 297 => 285 | 298 => 286 | 299 => 287 | 216 => 288 | 300 => 289 | 301 => 290 | 328 => 292 | 329 => 276 | 330 => 277 | 331 => 293 | 332 => 294 | 215 => 269 | 343 => 295 | n => n, fun | 28 => 25 | 3 => 3 | 46 => 270 | 0 => 0 | 51 => 284 | 53 => 254 | 4 => 4 | 183 => 296 | 182 => 295 | 131 => 190 | 5 => 5 | 9 => 9 | 218 => 312 | 222 => 316 | 228 => 326 | 229 => 181 | n => n, fun | n => n⟩
theorem Tryz.sort_int : Go.Proofs.Lays.n189 Tryz.prog Tryz.sort_int_ren := {
  mixed := by kernel_rfl
  f125 := Tryz.func213.trans (congrArg some (by kernel_rfl))
  f128 := Tryz.func255.trans (congrArg some (by kernel_rfl))
  f129 := Tryz.func236.trans (congrArg some (by kernel_rfl))
  f189 := Tryz.func246.trans (congrArg some (by kernel_rfl))
  f215 := Tryz.func269.trans (congrArg some (by kernel_rfl))
  f216 := Tryz.func288.trans (congrArg some (by kernel_rfl))
  f257 := Tryz.func274.trans (congrArg some (by kernel_rfl))
  f294 := Tryz.func282.trans (congrArg some (by kernel_rfl))
  f295 := Tryz.func283.trans (congrArg some (by kernel_rfl))
  f296 := Tryz.func284.trans (congrArg some (by kernel_rfl))
  f297 := Tryz.func285.trans (congrArg some (by kernel_rfl))
  f298 := Tryz.func286.trans (congrArg some (by kernel_rfl))
  f299 := Tryz.func287.trans (congrArg some (by kernel_rfl))
  f300 := Tryz.func289.trans (congrArg some (by kernel_rfl))
  f301 := Tryz.func290.trans (congrArg some (by kernel_rfl))
  f328 := Tryz.func292.trans (congrArg some (by kernel_rfl))
  f329 := Tryz.func276.trans (congrArg some (by kernel_rfl))
  f330 := Tryz.func277.trans (congrArg some (by kernel_rfl))
  f331 := Tryz.func293.trans (congrArg some (by kernel_rfl))
  f332 := Tryz.func294.trans (congrArg some (by kernel_rfl))
  f343 := Tryz.func295.trans (congrArg some (by kernel_rfl))
  t0 := Tryz.underlying0
  a0 := Tryz.isAgg0
  z0 := Tryz.sizeOf0
  v0 := Tryz.zeroValue0
  t3 := Tryz.underlying3
  a3 := Tryz.isAgg3
  z3 := Tryz.sizeOf3
  v3 := Tryz.zeroValue3
  t4 := Tryz.underlying4
  a4 := Tryz.isAgg4
  z4 := Tryz.sizeOf4
  v4 := Tryz.zeroValue4
  t5 := Tryz.underlying5
  a5 := Tryz.isAgg5
  z5 := Tryz.sizeOf5
  v5 := Tryz.zeroValue5
  t9 := Tryz.underlying9
  a9 := Tryz.isAgg9
  z9 := Tryz.sizeOf9
  v9 := Tryz.zeroValue9
  t28 := Tryz.underlying25
  a28 := Tryz.isAgg25
  z28 := Tryz.sizeOf25
  v28 := Tryz.zeroValue25
  t46 := Tryz.underlying270
  a46 := Tryz.isAgg270
  z46 := Tryz.sizeOf270
  v46 := Tryz.zeroValue270
  t51 := Tryz.underlying284
  a51 := Tryz.isAgg284
  z51 := Tryz.sizeOf284
  v51 := Tryz.zeroValue284
  t53 := Tryz.underlying254
  a53 := Tryz.isAgg254
  z53 := Tryz.sizeOf254
  v53 := Tryz.zeroValue254
  t131 := Tryz.underlying190
  a131 := Tryz.isAgg190
  z131 := Tryz.sizeOf190
  v131 := Tryz.zeroValue190
  t182 := Tryz.underlying295
  a182 := Tryz.isAgg295
  z182 := Tryz.sizeOf295
  v182 := Tryz.zeroValue295
  t183 := Tryz.underlying296
  a183 := Tryz.isAgg296
  z183 := Tryz.sizeOf296
  v183 := Tryz.zeroValue296
  t218 := Tryz.underlying312
  a218 := Tryz.isAgg312
  z218 := Tryz.sizeOf312
  v218 := Tryz.zeroValue312
  t222 := Tryz.underlying316
  a222 := Tryz.isAgg316
  z222 := Tryz.sizeOf316
  v222 := Tryz.zeroValue316
  t228 := Tryz.underlying326
  a228 := Tryz.isAgg326
  z228 := Tryz.sizeOf326
  v228 := Tryz.zeroValue326
  t229 := Tryz.underlying181
  a229 := Tryz.isAgg181
  z229 := Tryz.sizeOf181
  v229 := Tryz.zeroValue181 }
def Tryz.clone_span_ren : Go.Shelf.Ren := ⟨fun | 41 => 167 | n => n, fun | 22 => 92 | 23 => 91 | 4 => 4 | n => n, fun | n => n⟩
theorem Tryz.clone_span : Go.Proofs.SlLaysE0.n41 Tryz.prog Tryz.clone_span_ren := {
  mixed := by kernel_rfl
  f41 := ⟨Tryz.f167.name, by decide, Tryz.func167.trans (congrArg some (by kernel_rfl))⟩
  t4 := Tryz.underlying4
  a4 := Tryz.isAgg4
  z4 := Tryz.sizeOf4
  v4 := Tryz.zeroValue4
  t22 := Tryz.underlying92
  a22 := Tryz.isAgg92
  z22 := Tryz.sizeOf92
  v22 := Tryz.zeroValue92 }
def Tryz.sort_span_ren : Go.Shelf.Ren := ⟨fun | 6 => 168 | 15 => 213 | 14 => 212 | 28 => 255 | 29 => 236 | 20 => 247 | 21 => 248 | 22 => 249 | 23 => 250 | 24 => 251 | 25 => 252 | 26 => 253 | 27 => 254 | 46 => 275 | 47 => 276 | 48 => 277 | 49 => 278 | 50 => 279 | 57 => 291 | n => n, fun | 22 => 92 | 24 => 91 | 25 => 232 | 3 => 3 | 39 => 270 | 0 => 0 | 53 => 284 | 55 => 254 | 4 => 4 | 46 => 296 | 45 => 295 | 50 => 190 | 5 => 5 | 9 => 9 | 66 => 312 | 70 => 316 | 76 => 326 | 77 => 181 | n => n, fun | n => n⟩
theorem Tryz.sort_span : Go.Proofs.SlLaysF0.n6 Tryz.prog Tryz.sort_span_ren := {
  mixed := by kernel_rfl
  f6 := ⟨Tryz.f168.name, by decide, Tryz.func168.trans (congrArg some (by kernel_rfl))⟩
  f14 := ⟨Tryz.f212.name, by decide, Tryz.func212.trans (congrArg some (by kernel_rfl))⟩
  f15 := Tryz.func213.trans (congrArg some (by kernel_rfl))
  f20 := ⟨Tryz.f247.name, by decide, Tryz.func247.trans (congrArg some (by kernel_rfl))⟩
  f21 := ⟨Tryz.f248.name, by decide, Tryz.func248.trans (congrArg some (by kernel_rfl))⟩
  f22 := ⟨Tryz.f249.name, by decide, Tryz.func249.trans (congrArg some (by kernel_rfl))⟩
  f23 := ⟨Tryz.f250.name, by decide, Tryz.func250.trans (congrArg some (by kernel_rfl))⟩
  f24 := ⟨Tryz.f251.name, by decide, Tryz.func251.trans (congrArg some (by kernel_rfl))⟩
  f25 := ⟨Tryz.f252.name, by decide, Tryz.func252.trans (congrArg some (by kernel_rfl))⟩
  f26 := ⟨Tryz.f253.name, by decide, Tryz.func253.trans (congrArg some (by kernel_rfl))⟩
  f27 := ⟨Tryz.f254.name, by decide, Tryz.func254.trans (congrArg some (by kernel_rfl))⟩
  f28 := Tryz.func255.trans (congrArg some (by kernel_rfl))
  f29 := Tryz.func236.trans (congrArg some (by kernel_rfl))
  f46 := ⟨Tryz.f275.name, by decide, Tryz.func275.trans (congrArg some (by kernel_rfl))⟩
  f47 := Tryz.func276.trans (congrArg some (by kernel_rfl))
  f48 := Tryz.func277.trans (congrArg some (by kernel_rfl))
  f49 := ⟨Tryz.f278.name, by decide, Tryz.func278.trans (congrArg some (by kernel_rfl))⟩
  f50 := ⟨Tryz.f279.name, by decide, Tryz.func279.trans (congrArg some (by kernel_rfl))⟩
  f57 := ⟨Tryz.f291.name, by decide, Tryz.func291.trans (congrArg some (by kernel_rfl))⟩
  t0 := Tryz.underlying0
  a0 := Tryz.isAgg0
  z0 := Tryz.sizeOf0
  v0 := Tryz.zeroValue0
  t3 := Tryz.underlying3
  a3 := Tryz.isAgg3
  z3 := Tryz.sizeOf3
  v3 := Tryz.zeroValue3
  t4 := Tryz.underlying4
  a4 := Tryz.isAgg4
  z4 := Tryz.sizeOf4
  v4 := Tryz.zeroValue4
  t5 := Tryz.underlying5
  a5 := Tryz.isAgg5
  z5 := Tryz.sizeOf5
  v5 := Tryz.zeroValue5
  t9 := Tryz.underlying9
  a9 := Tryz.isAgg9
  z9 := Tryz.sizeOf9
  v9 := Tryz.zeroValue9
  t22 := Tryz.underlying92
  a22 := Tryz.isAgg92
  z22 := Tryz.sizeOf92
  v22 := Tryz.zeroValue92
  t25 := Tryz.underlying232
  a25 := Tryz.isAgg232
  z25 := Tryz.sizeOf232
  v25 := Tryz.zeroValue232
  t39 := Tryz.underlying270
  a39 := Tryz.isAgg270
  z39 := Tryz.sizeOf270
  v39 := Tryz.zeroValue270
  t45 := Tryz.underlying295
  a45 := Tryz.isAgg295
  z45 := Tryz.sizeOf295
  v45 := Tryz.zeroValue295
  t46 := Tryz.underlying296
  a46 := Tryz.isAgg296
  z46 := Tryz.sizeOf296
  v46 := Tryz.zeroValue296
  t50 := Tryz.underlying190
  a50 := Tryz.isAgg190
  z50 := Tryz.sizeOf190
  v50 := Tryz.zeroValue190
  t53 := Tryz.underlying284
  a53 := Tryz.isAgg284
  z53 := Tryz.sizeOf284
  v53 := Tryz.zeroValue284
  t55 := Tryz.underlying254
  a55 := Tryz.isAgg254
  z55 := Tryz.sizeOf254
  v55 := Tryz.zeroValue254
  t66 := Tryz.underlying312
  a66 := Tryz.isAgg312
  z66 := Tryz.sizeOf312
  v66 := Tryz.zeroValue312
  t70 := Tryz.underlying316
  a70 := Tryz.isAgg316
  z70 := Tryz.sizeOf316
  v70 := Tryz.zeroValue316
  t76 := Tryz.underlying326
  a76 := Tryz.isAgg326
  z76 := Tryz.sizeOf326
  v76 := Tryz.zeroValue326
  t77 := Tryz.underlying181
  a77 := Tryz.isAgg181
  z77 := Tryz.sizeOf181
  v77 := Tryz.zeroValue181 }
def Tryz.grow_span_ren : Go.Shelf.Ren := ⟨fun | 4 => 273 | n => n, fun | 22 => 92 | 25 => 91 | 3 => 3 | 4 => 4 | 9 => 9 | 20 => 20 | 0 => 0 | 2 => 3 | n => n, fun | n => n⟩
theorem Tryz.grow_span : Go.Proofs.Lays8.n4 Tryz.prog Tryz.grow_span_ren := {
  mixed := by kernel_rfl
  f4 := ⟨Tryz.f273.name, by decide, Tryz.func273.trans (congrArg some (by kernel_rfl))⟩
  t0 := Tryz.underlying0
  a0 := Tryz.isAgg0
  z0 := Tryz.sizeOf0
  v0 := Tryz.zeroValue0
  t3 := Tryz.underlying3
  a3 := Tryz.isAgg3
  z3 := Tryz.sizeOf3
  v3 := Tryz.zeroValue3
  t4 := Tryz.underlying4
  a4 := Tryz.isAgg4
  z4 := Tryz.sizeOf4
  v4 := Tryz.zeroValue4
  t9 := Tryz.underlying9
  a9 := Tryz.isAgg9
  z9 := Tryz.sizeOf9
  v9 := Tryz.zeroValue9
  t20 := Tryz.underlying20
  a20 := Tryz.isAgg20
  z20 := Tryz.sizeOf20
  v20 := Tryz.zeroValue20
  t22 := Tryz.underlying92
  a22 := Tryz.isAgg92
  z22 := Tryz.sizeOf92
  v22 := Tryz.zeroValue92 }
end Go.Proofs
namespace Go.AM
open Go Go.Proofs
noncomputable section
abbrev R_u85 : Type := List (T21).T
def res_u85 (r : R_u85) : AV := .own 0 0
def bo_u85 (s_ : List (T21).T) (r : R_u85) : List (Nat × Blk) := [(0, .row 91 T21 r)]
def args_u85 (s_ : List (T21).T) : List AV := [.r (.ro T21 s_)]
def bin_u85 (s_ : List (T21).T) : List Blk := []
abbrev C_u85 (s_ : List (T21).T) (r : R_u85) : Prop := CC Tryz.prog 167 (args_u85 s_) (bin_u85 s_) (res_u85 r) (bo_u85 s_ r)
def f_u85 (k : Nat) (s_ : List (T21).T) : Option R_u85 := if s_.length * 16 ≤ 140737488355328 then some s_ else none
def v_u85 (k : Nat) (s_ : List (T21).T) : R_u85 := (f_u85 k s_).getD []
def ke_u85 (k : Nat) : Ke := (167, fun xs => match xs with
  | [_] => some [false]
  | _ => none, fun xs bs => match xs, bs with
  | [.r (.ro ts__ qs_)], [] => (castL ts__ T21 qs_).bind fun s_ => some (.one (res_u85 (v_u85 k s_), bo_u85 s_ (v_u85 k s_)))
  | _, _ => none)
theorem of_u85 (k : Nat) (s_ : List (T21).T) (r : R_u85) (h : f_u85 k s_ = some r) : CC Tryz.prog 167 (args_u85 s_) (bin_u85 s_) (res_u85 r) (bo_u85 s_ r) := by
  unfold f_u85 at h
  split at h
  · rename_i q
    cases h
    exact cc_clone' (τ := T21) Tryz.clone_span (by kernel_rfl) Tryz.sizeOf91 ⟨Tryz.f167, _, Tryz.func167, rfl, by kernel_rfl⟩ s_ q
  · cases h
theorem cc_u85 {k : Nat} {s_ : List (T21).T} (h : (f_u85 k s_).isSome = true) : C_u85 s_ (v_u85 k s_) := ccG (Φ := C_u85 s_) h (of_u85 k s_)
abbrev R_u88 : Type := List (T21).T
def res_u88 (r : R_u88) : AV := .tup []
def bo_u88 (x_ : List (T21).T) (r : R_u88) : List (Nat × Blk) := [(0, .row 91 T21 r)]
def args_u88 (x_ : List (T21).T) : List AV := [.own 0 0, .r (.v (.func (.func 169) #[] #[]))]
def bin_u88 (x_ : List (T21).T) : List Blk := [.row 91 T21 x_]
abbrev C_u88 (x_ : List (T21).T) (r : R_u88) : Prop := CC Tryz.prog 168 (args_u88 x_) (bin_u88 x_) (res_u88 r) (bo_u88 x_ r)
theorem cmp_ (x y : SPair) (W : World) : Calls Tryz.prog 169 #[.agg #[.int .i64 x.1.1, .int .i64 x.1.2], .agg #[.int .i64 y.1.1, .int .i64 y.1.2]] W fun e w' => e = .returned (.int .i64 (spCmp x y)) ∧ ∃ q os', w' = Sort.grow (W.drewN q) os' := by
  have hw : RowKit.wrap64 (x.1.1 - y.1.1) = spCmp x y := by
    have h1 := x.2; have h2 := y.2
    unfold SmallI at h1 h2
    unfold RowKit.wrap64 spCmp
    omega
  go_enter Tryz.func169, Tryz.ntmps169
  go_wp2
  go_ret
  exact ⟨by rw [← hw]; rfl, 0, _, by rw [Sort.alloc_eq_grow, Sort.alloc_eq_grow, Sort.grow_grow]; rfl⟩
def f_u88 (k : Nat) (x_ : List (T21).T) : Option R_u88 := if (x_.all fun x => decide (SmallI x.1)) = true ∧ x_.length < 4611686018427387904 then some (srtSP x_) else none
def v_u88 (k : Nat) (x_ : List (T21).T) : R_u88 := (f_u88 k x_).getD []
def ke_u88 (k : Nat) : Ke := (168, fun xs => match xs with
  | [.own _ _, .r (.v (.func (.func 169) _ _))] => some [true, false]
  | _ => none, fun xs bs => match xs, bs with
  | [.own 0 0, .r (.v (.func (.func 169) _ _))], [.row 91 tx__ qx_] => (castL tx__ T21 qx_).bind fun x_ => some (.one (res_u88 (v_u88 k x_), bo_u88 x_ (v_u88 k x_)))
  | _, _ => none)
theorem of_u88 (k : Nat) (x_ : List (T21).T) (r : R_u88) (h : f_u88 k x_ = some r) : CC Tryz.prog 168 (args_u88 x_) (bin_u88 x_) (res_u88 r) (bo_u88 x_ r) := by
  unfold f_u88 at h
  split at h
  · rename_i q
    cases h
    rw [srtSP_eq (fun x hx => by simpa using List.all_eq_true.1 q.1 x hx)]
    have h1 : (toSP x_).map (·.1) = x_ := toSP_val x_ fun x hx => by simpa using List.all_eq_true.1 q.1 x hx
    have hl : (toSP x_).toArray.size = x_.length := by
      have := congrArg List.length h1
      simpa using this
    have := cc_sortFunc (P := Tryz.prog) Tryz.sort_span ⟨Tryz.f168, _, Tryz.func168, rfl, by kernel_rfl⟩ (τ := T21) rfl (by decide) Tryz.isAgg91 Tryz.sizeOf91 91 (α := SPair) (fun x => x.1) spCmp spCmp_swo 169 (enters_of Tryz.func169 (by kernel_rfl) rfl) (fun blk n w => fun _ _ _ _ x y => cmp_ x y _) (toSP x_).toArray (by rw [hl]; exact q.2) (fun x v hv => by simp [vals] at hv; rcases hv with rfl | rfl <;> rfl)
    have e2 : (toSP x_).toArray.toList.map (fun x : SPair => x.1) = x_ := h1
    rw [e2] at this
    exact this
  · cases h
theorem cc_u88 {k : Nat} {x_ : List (T21).T} (h : (f_u88 k x_).isSome = true) : C_u88 x_ (v_u88 k x_) := ccG (Φ := C_u88 x_) h (of_u88 k x_)
abbrev R_u95 : Type := Int
def res_u95 (r : R_u95) : AV := .r (.v (.int .i64 r))
def bo_u95 (a_ : T21.T) (b_ : T21.T) (r : R_u95) : List (Nat × Blk) := []
def f_u95 (k : Nat) (a_ : T21.T) (b_ : T21.T) : Option R_u95 :=
  some (IntKind.i64.wrap (a_.1 - b_.1))
def v_u95 (k : Nat) (a_ : T21.T) (b_ : T21.T) : R_u95 := (f_u95 k a_ b_).getD 0
def ke_u95 (k : Nat) : Ke := (169, fun xs => match xs with
  | [_, _] => some [false, false]
  | _ => none, fun xs bs => match xs, bs with
  | [.agg qa_, .agg qb_], [] => (decS [] T21 qa_).bind fun a_ => (decS [] T21 qb_).bind fun b_ => some (.one (res_u95 (v_u95 k a_ b_), bo_u95 a_ b_ (v_u95 k a_ b_)))
  | _, _ => none)
end
end Go.AM
namespace Go.AM
open Go Go.Proofs
noncomputable section
abbrev R_u94 : Type := List (T21).T
def res_u94 (r : R_u94) : AV := .r (.ro T21 r)
def bo_u94 (l_ : List (T21).T) (r : R_u94) : List (Nat × Blk) := []
def args_u94 (l_ : List (T21).T) : List AV := [.r (.ro T21 l_)]
def bin_u94 (l_ : List (T21).T) : List Blk := []
abbrev C_u94 (l_ : List (T21).T) (r : R_u94) : Prop := CC Tryz.prog 117 (args_u94 l_) (bin_u94 l_) (res_u94 r) (bo_u94 l_ r)
def st_u94_6 (y0 : Int) (y1 : Int) (y2 : List (T21).T) (y3 : T21.T) (y4 : List (T21).T) : St := ⟨mkS 66 [(3, .own 1000000 0), (4, .ptr 1000001 0 0), (12, .own 1000002 0), (13, .r (.v (.int .i64 y0))), (14, .r (.v (.int .i64 y1)))], [(1000000, 0, .row 91 T21 y2), (1000001, 0, .var 91 (rvs (enc T21 y3))), (1000002, 0, .row 91 T21 y4)]⟩
def f_u94_6 (k : Nat) : Nat → Int → Int → List (T21).T → T21.T → List (T21).T → Option R_u94
  | 0, _, _, _, _, _ => none
  | j + 1, y0, y1, y2, y3, y4 =>
  bif (decide (y1 < y0)) then
  if (0 ≤ y1) ∧ (y1 < (↑y4.length : Int)) then
  bif (decide ((y4.getD y1.toNat T21.dflt).1 ≥ (y4.getD y1.toNat T21.dflt).2) || eqT T21 (y4.getD y1.toNat T21.dflt) y3) then
  f_u94_6 k j y0 ((IntKind.i64.wrap (y1 + 1))) y2 ((y4.getD y1.toNat T21.dflt)) y4
  else
  if (decide ((↑y2.length : Int) > (0 : Int)) = true → (0 : Int) ≤ IntKind.i64.wrap ((↑y2.length : Int) - (1 : Int))) ∧ (decide ((↑y2.length : Int) > (0 : Int)) = true → IntKind.i64.wrap ((↑y2.length : Int) - (1 : Int)) < (↑y2.length : Int)) then
  bif (decide ((↑y2.length : Int) > (0 : Int)) && decide ((y4.getD y1.toNat T21.dflt).1 ≤ (y2.getD (IntKind.i64.wrap ((↑y2.length : Int) - (1 : Int))).toNat T21.dflt).2)) then
  if ((0 : Int) ≤ IntKind.i64.wrap ((↑y2.length : Int) - (1 : Int))) ∧ (IntKind.i64.wrap ((↑y2.length : Int) - (1 : Int)) < (↑y2.length : Int)) ∧ ((0 : Int) ≤ IntKind.i64.wrap ((↑y2.length : Int) - (1 : Int))) ∧ (IntKind.i64.wrap ((↑y2.length : Int) - (1 : Int)) < (↑y2.length : Int)) then
  f_u94_6 k j y0 ((IntKind.i64.wrap (y1 + 1))) ((y2.set (IntKind.i64.wrap ((↑y2.length : Int) - 1)).toNat ((y2.getD (IntKind.i64.wrap ((↑y2.length : Int) - 1)).toNat T21.dflt).1, if (y4.getD y1.toNat T21.dflt).2 > (y2.getD (IntKind.i64.wrap ((↑y2.length : Int) - 1)).toNat T21.dflt).2 then (y4.getD y1.toNat T21.dflt).2 else (y2.getD (IntKind.i64.wrap ((↑y2.length : Int) - 1)).toNat T21.dflt).2))) ((y4.getD y1.toNat T21.dflt)) y4
  else none
  else
  if ((y2.length + [y4.getD y1.toNat T21.dflt].length) * (16 : Nat) ≤ (140737488355328 : Nat)) then
  f_u94_6 k j y0 ((IntKind.i64.wrap (y1 + 1))) ((y2 ++ [y4.getD y1.toNat T21.dflt])) ((y4.getD y1.toNat T21.dflt)) y4
  else none
  else none
  else none
  else
  some y2
def f_u94 (k : Nat) (l_ : List (T21).T) : Option R_u94 :=
  if ((f_u85 k l_).isSome = true) then
  if ((f_u88 k (v_u85 k l_)).isSome = true) then
  f_u94_6 k k ((↑ (List.length (v_u88 k (v_u85 k l_))) : Int)) 0 ([]) ((0, 0)) ((v_u88 k (v_u85 k l_)))
  else none
  else none
def v_u94 (k : Nat) (l_ : List (T21).T) : R_u94 := (f_u94 k l_).getD []
def ke_u94 (k : Nat) : Ke := (117, fun xs => match xs with
  | [_] => some [false]
  | _ => none, fun xs bs => match xs, bs with
  | [.r (.ro tl__ ql_)], [] => (castL tl__ T21 ql_).bind fun l_ => some (.one (res_u94 (v_u94 k l_), bo_u94 l_ (v_u94 k l_)))
  | _, _ => none)
def K_u94 (k : Nat) : Calld := mkK [ke_u85 k, ke_u88 k, ke_u95 k]
def cs_u94 : List (Nat × List Cmd) := [(6, [.row 3 91 T21, .autoB [3, 4, 12, 13, 14] false []])]
abbrev E_u94 (l_ : List (T21).T) (todo : List Item) (st : St) (o : Option R_u94) : Prop := ∀ r, o = some r → Ev Tryz.prog Tryz.f117 0 todo st (res_u94 r) (bo_u94 l_ r)
theorem ev_u94 (k : Nat) (l_ : List (T21).T) : ∀ j, (∀ (y0 : Int) (y1 : Int) (y2 : List (T21).T) (y3 : T21.T) (y4 : List (T21).T), E_u94 l_ (placeAt Tryz.f117 6) (st_u94_6 y0 y1 y2 y3 y4) (f_u94_6 k j y0 y1 y2 y3 y4))
  | 0 => fun _ _ _ _ _ _ h => (nomatch h)
  | j + 1 => by
    have ih := @ev_u94 k l_ j
    · intro y0 y1 y2 y3 y4 r h
      rw [f_u94_6] at h
      exact go (K_u94 k) [] cs_u94 [.frz 2 false (RTy.list T21), .autoB [2] true []] (gT h (fun c h => gN2 h fun h => gT h (fun c h => gC h 6 (ih _ _ _ _ _ _)) fun c h => gN2 h fun h => gT h (fun c h => gN h (fun q => conjC q.1 (conjC q.2.1 (conjC q.2.2.1 (conjC q.2.2.2 conj0)))) fun h => gC h 6 (ih _ _ _ _ _ _)) fun c h => gN1 h id fun h => gC h 6 (ih _ _ _ _ _ _)) fun c h => gL h) (by kernel_rfl)
theorem of_u94 (k : Nat) (l_ : List (T21).T) (r : R_u94) (h : f_u94 k l_ = some r) : C_u94 l_ r := by
  refine CC.of (fn := Tryz.f117) (by kernel_rfl) (by kernel_rfl) (by kernel_rfl) (by kernel_rfl) ?_
  unfold f_u94 at h
  exact go (K_u94 k) [] cs_u94 [.frz 2 false (RTy.list T21), .autoB [2] true []] (gN1 h (fun q => cc_u85 q) fun h => gN1 h (fun q => cc_u88 q) fun h => gC h 6 ((ev_u94 k l_ k) _ _ _ _ _ _)) (by kernel_rfl)
theorem cc_u94 {k : Nat} {l_ : List (T21).T} (h : (f_u94 k l_).isSome = true) : C_u94 l_ (v_u94 k l_) := ccG (Φ := C_u94 l_) h (of_u94 k l_)
abbrev R_u93 : Type := Int × Int
def res_u93 (r : R_u93) : AV := .tup [.r (.v (.int .i64 r.1)), .r (.v (.int .i64 r.2))]
def bo_u93 (l_ : List (T21).T) (r : R_u93) : List (Nat × Blk) := []
def args_u93 (l_ : List (T21).T) : List AV := [.r (.ro T21 l_)]
def bin_u93 (l_ : List (T21).T) : List Blk := []
abbrev C_u93 (l_ : List (T21).T) (r : R_u93) : Prop := CC Tryz.prog 69 (args_u93 l_) (bin_u93 l_) (res_u93 r) (bo_u93 l_ r)
def st_u93_6 (y0 : Int) (y1 : List (T21).T) (y2 : Int) (y3 : Int) : St := ⟨mkS 29 [(5, .r (.v (.int .i64 y0))), (14, .r (.ro T21 y1)), (15, .r (.v (.int .i64 y2))), (16, .r (.v (.int .i64 y3)))], []⟩
def f_u93_6 (k : Nat) : Nat → Int → List (T21).T → Int → Int → Option R_u93
  | 0, _, _, _, _ => none
  | j + 1, y0, y1, y2, y3 =>
  bif (decide (y3 < y2)) then
  if (0 ≤ y3) ∧ (y3 < (↑y1.length : Int)) then
  f_u93_6 k j ((IntKind.i64.wrap (y0 + IntKind.i64.wrap ((y1.getD y3.toNat T21.dflt).2 - (y1.getD y3.toNat T21.dflt).1)))) y1 y2 ((IntKind.i64.wrap (y3 + 1)))
  else none
  else
  some ((y0, 0))
def f_u93 (k : Nat) (l_ : List (T21).T) : Option R_u93 :=
  if ((f_u90 k l_).isSome = true) then
  bif (v_u90 k l_ != (0 : Int)) then
  some ((0, v_u90 k l_))
  else
  if ((f_u94 k l_).isSome = true) then
  f_u93_6 k k 0 ((v_u94 k l_)) ((↑ (List.length (v_u94 k l_)) : Int)) 0
  else none
  else none
def v_u93 (k : Nat) (l_ : List (T21).T) : R_u93 := (f_u93 k l_).getD (0, 0)
def ke_u93 (k : Nat) : Ke := (69, fun xs => match xs with
  | [_] => some [false]
  | _ => none, fun xs bs => match xs, bs with
  | [.r (.ro tl__ ql_)], [] => (castL tl__ T21 ql_).bind fun l_ => some (.one (res_u93 (v_u93 k l_), bo_u93 l_ (v_u93 k l_)))
  | _, _ => none)
def cs_u93 : List (Nat × List Cmd) := [(6, [.autoB [5, 14, 15, 16] false []])]
abbrev E_u93 (l_ : List (T21).T) (todo : List Item) (st : St) (o : Option R_u93) : Prop := ∀ r, o = some r → Ev Tryz.prog Tryz.f69 0 todo st (res_u93 r) (bo_u93 l_ r)
theorem ev_u93 (k : Nat) (l_ : List (T21).T) : ∀ j, (∀ (y0 : Int) (y1 : List (T21).T) (y2 : Int) (y3 : Int), E_u93 l_ (placeAt Tryz.f69 6) (st_u93_6 y0 y1 y2 y3) (f_u93_6 k j y0 y1 y2 y3))
  | 0 => fun _ _ _ _ _ h => (nomatch h)
  | j + 1 => by
    have ih := @ev_u93 k l_ j
    · intro y0 y1 y2 y3 r h
      rw [f_u93_6] at h
      exact go (mkK [ke_u90 k, ke_u94 k]) [] cs_u93 [.autoB [2, 3] true []] (gT h (fun c h => gN2 h fun h => gC h 6 (ih _ _ _ _ _)) fun c h => gL h) (by kernel_rfl)
theorem of_u93 (k : Nat) (l_ : List (T21).T) (r : R_u93) (h : f_u93 k l_ = some r) : C_u93 l_ r := by
  refine CC.of (fn := Tryz.f69) (by kernel_rfl) (by kernel_rfl) (by kernel_rfl) (by kernel_rfl) ?_
  unfold f_u93 at h
  exact go (mkK [ke_u90 k, ke_u94 k]) [] cs_u93 [.autoB [2, 3] true []] (gN1 h (fun q => cc_u90 q) fun h => gT h (fun c h => gL h) fun c h => gN1 h (fun q => cc_u94 q) fun h => gC h 6 ((ev_u93 k l_ k) _ _ _ _ _)) (by kernel_rfl)
theorem cc_u93 {k : Nat} {l_ : List (T21).T} (h : (f_u93 k l_).isSome = true) : C_u93 l_ (v_u93 k l_) := ccG (Φ := C_u93 l_) h (of_u93 k l_)
abbrev R_u39 : Type := T21.T
def res_u39 (r : R_u39) : AV := .agg (rvs (enc T21 r))
def bo_u39 (r_ : T3.T) (r : R_u39) : List (Nat × Blk) := []
def args_u39 (r_ : T3.T) : List AV := [.agg (rvs (enc T3 r_))]
def bin_u39 (r_ : T3.T) : List Blk := []
abbrev C_u39 (r_ : T3.T) (r : R_u39) : Prop := CC Tryz.prog 165 (args_u39 r_) (bin_u39 r_) (res_u39 r) (bo_u39 r_ r)
def f_u39 (k : Nat) (r_ : T3.T) : Option R_u39 :=
  if ((f_u38 k r_ (IntKind.i64.wrap (r_.2.1 - 1))).isSome = true) then
  some ((if v_u38 k r_ (IntKind.i64.wrap (r_.2.1 - 1)) < r_.1 then v_u38 k r_ (IntKind.i64.wrap (r_.2.1 - 1)) else r_.1, IntKind.i64.wrap ((if v_u38 k r_ (IntKind.i64.wrap (r_.2.1 - 1)) > r_.1 then v_u38 k r_ (IntKind.i64.wrap (r_.2.1 - 1)) else r_.1) + 1)))
  else none
def v_u39 (k : Nat) (r_ : T3.T) : R_u39 := (f_u39 k r_).getD (T21).dflt
def ke_u39 (k : Nat) : Ke := (165, fun xs => match xs with
  | [_] => some [false]
  | _ => none, fun xs bs => match xs, bs with
  | [.agg qr_], [] => (decS [] T3 qr_).bind fun r_ => some (.one (res_u39 (v_u39 k r_), bo_u39 r_ (v_u39 k r_)))
  | _, _ => none)
theorem of_u39 (k : Nat) (r_ : T3.T) (r : R_u39) (h : f_u39 k r_ = some r) : C_u39 r_ r := by
  refine CC.of (fn := Tryz.f165) (by kernel_rfl) (by kernel_rfl) (by kernel_rfl) (by kernel_rfl) ?_
  unfold f_u39 at h
  exact go (mkK [ke_u38 k]) [] [] [.autoB [2] true []] (gN1 h (fun q => cc_u38 q) fun h => gL h) (by kernel_rfl)
theorem cc_u39 {k : Nat} {r_ : T3.T} (h : (f_u39 k r_).isSome = true) : C_u39 r_ (v_u39 k r_) := ccG (Φ := C_u39 r_) h (of_u39 k r_)
abbrev R_u92 : Type := Bool
def res_u92 (r : R_u92) : AV := .r (.v (.bool r))
def bo_u92 (a_ : Bool) (b_ : Bool) (r : R_u92) : List (Nat × Blk) := []
def args_u92 (a_ : Bool) (b_ : Bool) : List AV := [.r (.v (.bool a_)), .r (.v (.bool b_))]
def bin_u92 (a_ : Bool) (b_ : Bool) : List Blk := []
abbrev C_u92 (a_ : Bool) (b_ : Bool) (r : R_u92) : Prop := CC Tryz.prog 211 (args_u92 a_ b_) (bin_u92 a_ b_) (res_u92 r) (bo_u92 a_ b_ r)
def f_u92 (k : Nat) (a_ : Bool) (b_ : Bool) : Option R_u92 :=
  some a_
def v_u92 (k : Nat) (a_ : Bool) (b_ : Bool) : R_u92 := (f_u92 k a_ b_).getD false
def ke_u92 (k : Nat) : Ke := (211, fun xs => match xs with
  | [_, _] => some [false, false]
  | _ => none, fun xs bs => match xs, bs with
  | [.r (.v (.bool a_)), .r (.v (.bool b_))], [] => some (.one (res_u92 (v_u92 k a_ b_), bo_u92 a_ b_ (v_u92 k a_ b_)))
  | _, _ => none)
theorem of_u92 (k : Nat) (a_ : Bool) (b_ : Bool) (r : R_u92) (h : f_u92 k a_ b_ = some r) : C_u92 a_ b_ r := by
  refine CC.of (fn := Tryz.f211) (by kernel_rfl) (by kernel_rfl) (by kernel_rfl) (by kernel_rfl) ?_
  unfold f_u92 at h
  exact go (mkK []) [] [] [.autoB [4] true []] (gL h) (by kernel_rfl)
theorem cc_u92 {k : Nat} {a_ : Bool} {b_ : Bool} (h : (f_u92 k a_ b_).isSome = true) : C_u92 a_ b_ (v_u92 k a_ b_) := ccG (Φ := C_u92 a_ b_) h (of_u92 k a_ b_)
abbrev R_u87 : Type := List (T21).T
def res_u87 (r : R_u87) : AV := .own 0 0
def bo_u87 (n_ : Int) (r : R_u87) : List (Nat × Blk) := [(0, .row 91 T21 r)]
def args_u87 (n_ : Int) : List AV := [.r (.v (Value.slice none 0 0)), .r (.v (.int .i64 n_))]
def bin_u87 (n_ : Int) : List Blk := []
abbrev C_u87 (n_ : Int) (r : R_u87) : Prop := CC Tryz.prog 273 (args_u87 n_) (bin_u87 n_) (res_u87 r) (bo_u87 n_ r)
def f_u87 (k : Nat) (n_ : Int) : Option R_u87 := if 0 ≤ n_ ∧ n_.toNat * 16 ≤ 140737488355328 then some [] else none
def v_u87 (k : Nat) (n_ : Int) : R_u87 := (f_u87 k n_).getD []
def ke_u87 (k : Nat) : Ke := (273, fun xs => match xs with
  | [.r (.v (Value.slice none 0 0)), _] => some [true, false]
  | _ => none, fun xs bs => match xs, bs with
  | [.r (.v (Value.slice none 0 0)), .r (.v (.int .i64 n_))], [] => some (.one (res_u87 (v_u87 k n_), bo_u87 n_ (v_u87 k n_)))
  | _, _ => none)
theorem of_u87 (k : Nat) (n_ : Int) (r : R_u87) (h : f_u87 k n_ = some r) : CC Tryz.prog 273 (args_u87 n_) (bin_u87 n_) (res_u87 r) (bo_u87 n_ r) := by
  unfold f_u87 at h
  split at h
  · rename_i q
    cases h
    exact cc_grow' Tryz.grow_span ⟨Tryz.f273, _, Tryz.func273, rfl, by kernel_rfl⟩ T21 (by kernel_rfl) n_ q.1 q.2
  · cases h
theorem cc_u87 {k : Nat} {n_ : Int} (h : (f_u87 k n_).isSome = true) : C_u87 n_ (v_u87 k n_) := ccG (Φ := C_u87 n_) h (of_u87 k n_)
abbrev R_u86 : Type := List (T21).T
def res_u86 (r : R_u86) : AV := .own 0 0
def bo_u86 (slices_ : List (RTy.list T21).T) (r : R_u86) : List (Nat × Blk) := [(0, .row 91 T21 r)]
def args_u86 (slices_ : List (RTy.list T21).T) : List AV := [.r (.ro (RTy.list T21) slices_)]
def bin_u86 (slices_ : List (RTy.list T21).T) : List Blk := []
abbrev C_u86 (slices_ : List (RTy.list T21).T) (r : R_u86) : Prop := CC Tryz.prog 245 (args_u86 slices_) (bin_u86 slices_) (res_u86 r) (bo_u86 slices_ r)
def st_u86_3 (y0 : List (T21.list).T) (y1 : Int) (y2 : List (T21.list).T) (y3 : Int) (y4 : Int) : St := ⟨mkS 36 [(0, .r (.ro T21.list y0)), (3, .r (.v (.int .i64 y1))), (9, .r (.ro T21.list y2)), (10, .r (.v (.int .i64 y3))), (11, .r (.v (.int .i64 y4)))], []⟩
def st_u86_11 (y0 : List (T21.list).T) (y1 : Int) (y2 : Int) (y3 : List (T21).T) : St := ⟨mkS 36 [(6, .own 1000000 0), (25, .r (.ro T21.list y0)), (26, .r (.v (.int .i64 y1))), (27, .r (.v (.int .i64 y2)))], [(1000000, 0, .row 91 T21 y3)]⟩
mutual
def f_u86_3 (k : Nat) : Nat → List (T21.list).T → Int → List (T21.list).T → Int → Int → Option R_u86
  | 0, _, _, _, _, _ => none
  | j + 1, y0, y1, y2, y3, y4 =>
  bif (decide (y4 < y3)) then
  if (0 ≤ y4) ∧ (y4 < (↑y2.length : Int)) then
  bif (decide (IntKind.i64.wrap (y1 + (↑ (List.length (y2.getD y4.toNat T21.list.dflt)) : Int)) < (0 : Int))) then
  none
  else
  f_u86_3 k j y0 ((IntKind.i64.wrap (y1 + (↑ (List.length (y2.getD y4.toNat T21.list.dflt)) : Int)))) y2 y3 ((IntKind.i64.wrap (y4 + 1)))
  else none
  else
  if ((f_u87 k y1).isSome = true) then
  f_u86_11 k j y0 ((↑y0.length : Int)) 0 ((v_u87 k y1))
  else none
def f_u86_11 (k : Nat) : Nat → List (T21.list).T → Int → Int → List (T21).T → Option R_u86
  | 0, _, _, _, _ => none
  | j + 1, y0, y1, y2, y3 =>
  bif (decide (y2 < y1)) then
  if (0 ≤ y2) ∧ (y2 < (↑y0.length : Int)) then
  if ((y3.length + List.length (y0.getD y2.toNat T21.list.dflt)) * (16 : Nat) ≤ (140737488355328 : Nat)) then
  f_u86_11 k j y0 y1 ((IntKind.i64.wrap (y2 + 1))) ((y3 ++ y0.getD y2.toNat T21.list.dflt))
  else none
  else none
  else
  some y3
end
def f_u86 (k : Nat) (slices_ : List (RTy.list T21).T) : Option R_u86 :=
  f_u86_3 k k slices_ 0 slices_ ((↑slices_.length : Int)) 0
def v_u86 (k : Nat) (slices_ : List (RTy.list T21).T) : R_u86 := (f_u86 k slices_).getD []
def ke_u86 (k : Nat) : Ke := (245, fun xs => match xs with
  | [_] => some [false]
  | _ => none, fun xs bs => match xs, bs with
  | [.r (.ro tslices__ qslices_)], [] => (castL tslices__ (RTy.list T21) qslices_).bind fun slices_ => some (.one (res_u86 (v_u86 k slices_), bo_u86 slices_ (v_u86 k slices_)))
  | _, _ => none)
def cs_u86 : List (Nat × List Cmd) := [(3, [.autoB [0, 3, 9, 10, 11] false []]), (11, [.autoB [6, 25, 26, 27] false []])]
abbrev E_u86 (slices_ : List (RTy.list T21).T) (todo : List Item) (st : St) (o : Option R_u86) : Prop := ∀ r, o = some r → Ev Tryz.prog Tryz.f245 0 todo st (res_u86 r) (bo_u86 slices_ r)
theorem ev_u86 (k : Nat) (slices_ : List (RTy.list T21).T) : ∀ j, (∀ (y0 : List (T21.list).T) (y1 : Int) (y2 : List (T21.list).T) (y3 : Int) (y4 : Int), E_u86 slices_ (placeAt Tryz.f245 3) (st_u86_3 y0 y1 y2 y3 y4) (f_u86_3 k j y0 y1 y2 y3 y4)) ∧ (∀ (y0 : List (T21.list).T) (y1 : Int) (y2 : Int) (y3 : List (T21).T), E_u86 slices_ (placeAt Tryz.f245 11) (st_u86_11 y0 y1 y2 y3) (f_u86_11 k j y0 y1 y2 y3))
  | 0 => ⟨fun _ _ _ _ _ _ h => (nomatch h), fun _ _ _ _ _ h => (nomatch h)⟩
  | j + 1 => by
    have ih := @ev_u86 k slices_ j
    refine ⟨?_, ?_⟩
    · intro y0 y1 y2 y3 y4 r h
      rw [f_u86_3] at h
      exact go (mkK [ke_u87 k]) [] cs_u86 [.autoB [2] true []] (gT h (fun c h => gN2 h fun h => gT h (fun c h => gZ h (.stuck 5000)) fun c h => gC h 3 (ih.1 _ _ _ _ _ _)) fun c h => gN1 h (fun q => cc_u87 q) fun h => gC h 11 (ih.2 _ _ _ _ _)) (by kernel_rfl)
    · intro y0 y1 y2 y3 r h
      rw [f_u86_11] at h
      exact go (mkK [ke_u87 k]) [] cs_u86 [.autoB [2] true []] (gT h (fun c h => gN2 h fun h => gN1 h id fun h => gC h 11 (ih.2 _ _ _ _ _)) fun c h => gL h) (by kernel_rfl)
theorem of_u86 (k : Nat) (slices_ : List (RTy.list T21).T) (r : R_u86) (h : f_u86 k slices_ = some r) : C_u86 slices_ r := by
  refine CC.of (fn := Tryz.f245) (by kernel_rfl) (by kernel_rfl) (by kernel_rfl) (by kernel_rfl) ?_
  unfold f_u86 at h
  exact go (mkK [ke_u87 k]) [] cs_u86 [.autoB [2] true []] (gC h 3 ((ev_u86 k slices_ k).1 _ _ _ _ _ _)) (by kernel_rfl)
theorem cc_u86 {k : Nat} {slices_ : List (RTy.list T21).T} (h : (f_u86 k slices_).isSome = true) : C_u86 slices_ (v_u86 k slices_) := ccG (Φ := C_u86 slices_) h (of_u86 k slices_)
abbrev R_u89 : Type := List Int
def res_u89 (r : R_u89) : AV := .tup []
def bo_u89 (x_ : List (I).T) (r : R_u89) : List (Nat × Blk) := [(0, .row 3 (RTy.int .i64) r)]
def args_u89 (x_ : List (I).T) : List AV := [.own 0 0]
def bin_u89 (x_ : List (I).T) : List Blk := [.row 3 I x_]
abbrev C_u89 (x_ : List (I).T) (r : R_u89) : Prop := CC Tryz.prog 246 (args_u89 x_) (bin_u89 x_) (res_u89 r) (bo_u89 x_ r)
def f_u89 (k : Nat) (x_ : List Int) : Option R_u89 := if x_.length < 4611686018427387904 then some (srtI x_) else none
def v_u89 (k : Nat) (x_ : List (I).T) : R_u89 := (f_u89 k x_).getD []
def ke_u89 (k : Nat) : Ke := (246, fun xs => match xs with
  | [.own _ _] => some [true]
  | _ => none, fun xs bs => match xs, bs with
  | [.own 0 0], [.row 3 tx__ qx_] => (castL tx__ I qx_).bind fun x_ => some (.one (res_u89 (v_u89 k x_), bo_u89 x_ (v_u89 k x_)))
  | _, _ => none)
theorem of_u89 (k : Nat) (x_ : List Int) (r : R_u89) (h : f_u89 k x_ = some r) : CC Tryz.prog 246 (args_u89 x_) (bin_u89 x_) (res_u89 r) (bo_u89 x_ r) := by
  unfold f_u89 at h
  split at h
  · rename_i q
    cases h
    rw [srtI_eq x_]
    exact cc_sort_int Tryz.sort_int ⟨Tryz.f246, _, Tryz.func246, rfl, by kernel_rfl⟩ 3 x_ q
  · cases h
theorem cc_u89 {k : Nat} {x_ : List (I).T} (h : (f_u89 k x_).isSome = true) : C_u89 x_ (v_u89 k x_) := ccG (Φ := C_u89 x_) h (of_u89 k x_)
abbrev R_u96 : Type := List (T21).T × Int
def res_u96 (r : R_u96) : AV := .tup [.r (.ro T21 r.1), .r (.v (.int .i64 r.2))]
def bo_u96 (t_ : List (T21).T) (o_ : List (T21).T) (r : R_u96) : List (Nat × Blk) := []
def args_u96 (t_ : List (T21).T) (o_ : List (T21).T) : List AV := [.r (.ro T21 t_), .r (.ro T21 o_), .r (.v (.func (.func 211) #[] #[]))]
def bin_u96 (t_ : List (T21).T) (o_ : List (T21).T) : List Blk := []
abbrev C_u96 (t_ : List (T21).T) (o_ : List (T21).T) (r : R_u96) : Prop := CC Tryz.prog 210 (args_u96 t_ o_) (bin_u96 t_ o_) (res_u96 r) (bo_u96 t_ o_ r)
def st_u96_10 (y0 : List (T21).T) (y1 : List (T21).T) (y2 : Int) (y3 : Int) (y4 : List (I).T) (y5 : List (T21).T) : St := ⟨mkS 147 [(0, .r (.ro T21 y0)), (1, .r (.ro T21 y1)), (2, .r (.v (Value.func (Fn.func 211) #[] #[]))), (10, .own 1000000 0), (35, .own 1000001 0), (36, .r (.v (.int .i64 y2))), (37, .r (.v (.int .i64 y3)))], [(1000000, 0, .row 3 I y4), (1000001, 0, .row 91 T21 y5)]⟩
def st_u96_18 (y0 : List (T21).T) (y1 : List (T21).T) (y2 : Int) (y3 : Int) (y4 : Int) (y5 : Int) (y6 : List (RTy.int IntKind.i64).T) (y7 : List (T21).T) : St := ⟨mkS 147 [(0, .r (.ro T21 y0)), (1, .r (.ro T21 y1)), (2, .r (.v (Value.func (Fn.func 211) #[] #[]))), (10, .own 1000000 0), (13, .own 1000001 0), (14, .r (.v (.int .i64 y2))), (15, .r (.v (.int .i64 y3))), (51, .own 1000000 0), (52, .r (.v (.int .i64 y4))), (53, .r (.v (.int .i64 y5)))], [(1000000, 0, .row 3 ((RTy.int IntKind.i64)) y6), (1000001, 0, .row 91 T21 y7)]⟩
def st_u96_20 (y0 : List (T21).T) (y1 : List (T21).T) (y2 : Int) (y3 : Int) (y4 : Int) (y5 : Int) (y6 : Int) (y7 : Int) (y8 : List (RTy.int IntKind.i64).T) (y9 : List (T21).T) : St := ⟨mkS 147 [(0, .r (.ro T21 y0)), (1, .r (.ro T21 y1)), (2, .r (.v (Value.func (Fn.func 211) #[] #[]))), (10, .own 1000000 0), (13, .own 1000001 0), (14, .r (.v (.int .i64 y2))), (15, .r (.v (.int .i64 y3))), (16, .r (.v (.int .i64 y4))), (17, .r (.v (.int .i64 y5))), (51, .own 1000000 0), (52, .r (.v (.int .i64 y6))), (53, .r (.v (.int .i64 y7)))], [(1000000, 0, .row 3 ((RTy.int IntKind.i64)) y8), (1000001, 0, .row 91 T21 y9)]⟩
def st_u96_22 (y0 : List (T21).T) (y1 : List (T21).T) (y2 : Int) (y3 : Int) (y4 : Int) (y5 : Int) (y6 : Int) (y7 : Int) (y8 : List (RTy.int IntKind.i64).T) (y9 : List (T21).T) : St := ⟨mkS 147 [(0, .r (.ro T21 y0)), (1, .r (.ro T21 y1)), (2, .r (.v (Value.func (Fn.func 211) #[] #[]))), (10, .own 1000000 0), (13, .own 1000001 0), (14, .r (.v (.int .i64 y2))), (15, .r (.v (.int .i64 y3))), (16, .r (.v (.int .i64 y4))), (17, .r (.v (.int .i64 y5))), (51, .own 1000000 0), (52, .r (.v (.int .i64 y6))), (53, .r (.v (.int .i64 y7)))], [(1000000, 0, .row 3 ((RTy.int IntKind.i64)) y8), (1000001, 0, .row 91 T21 y9)]⟩
def st_u96_28 (y0 : List (T21).T) : St := ⟨mkS 147 [(13, .r (.ro T21 y0))], []⟩
mutual
def f_u96_10 (k : Nat) : Nat → List (T21).T → List (T21).T → Int → Int → List (I).T → List (T21).T → Option R_u96
  | 0, _, _, _, _, _, _ => none
  | j + 1, y0, y1, y2, y3, y4, y5 =>
  bif (decide (y3 < y2)) then
  if (0 ≤ y3) ∧ (y3 < (↑y5.length : Int)) then
  if ((y4.length + [(y5.getD y3.toNat T21.dflt).1, (y5.getD y3.toNat T21.dflt).2].length) * (8 : Nat) ≤ (140737488355328 : Nat)) then
  f_u96_10 k j y0 y1 y2 ((IntKind.i64.wrap (y3 + 1))) ((y4 ++ [(y5.getD y3.toNat T21.dflt).1, (y5.getD y3.toNat T21.dflt).2])) y5
  else none
  else none
  else
  if ((f_u89 k y4).isSome = true) then
  f_u96_18 k j y0 y1 0 0 ((↑ (List.length (v_u89 k y4)) : Int)) 0 ((v_u89 k y4)) ([])
  else none
def f_u96_18 (k : Nat) : Nat → List (T21).T → List (T21).T → Int → Int → Int → Int → List (RTy.int IntKind.i64).T → List (T21).T → Option R_u96
  | 0, _, _, _, _, _, _, _, _ => none
  | j + 1, y0, y1, y2, y3, y4, y5, y6, y7 =>
  bif (decide (y5 < y4)) then
  if (0 ≤ y5) ∧ (y5 < (↑y6.length : Int)) then
  f_u96_20 k j y0 y1 y2 y3 y5 ((y6.getD y5.toNat (RTy.int IntKind.i64).dflt)) y4 y5 y6 y7
  else none
  else
  f_u96_28 k j y7
def f_u96_20 (k : Nat) : Nat → List (T21).T → List (T21).T → Int → Int → Int → Int → Int → Int → List (RTy.int IntKind.i64).T → List (T21).T → Option R_u96
  | 0, _, _, _, _, _, _, _, _, _, _ => none
  | j + 1, y0, y1, y2, y3, y4, y5, y6, y7, y8, y9 =>
  if (decide (y2 < (↑y0.length : Int)) = true → 0 ≤ y2) ∧ (decide (y2 < (↑y0.length : Int)) = true → y2 < (↑y0.length : Int)) then
  bif (decide (y2 < (↑y0.length : Int)) && decide ((y0.getD y2.toNat T21.dflt).2 ≤ y5)) then
  f_u96_20 k j y0 y1 ((IntKind.i64.wrap (y2 + 1))) y3 y4 y5 y6 y7 y8 y9
  else
  f_u96_22 k j y0 y1 y2 y3 y4 y5 y6 y7 y8 y9
  else none
def f_u96_22 (k : Nat) : Nat → List (T21).T → List (T21).T → Int → Int → Int → Int → Int → Int → List (RTy.int IntKind.i64).T → List (T21).T → Option R_u96
  | 0, _, _, _, _, _, _, _, _, _, _ => none
  | j + 1, y0, y1, y2, y3, y4, y5, y6, y7, y8, y9 =>
  if (decide (y3 < (↑y1.length : Int)) = true → 0 ≤ y3) ∧ (decide (y3 < (↑y1.length : Int)) = true → y3 < (↑y1.length : Int)) then
  bif (decide (y3 < (↑y1.length : Int)) && decide ((y1.getD y3.toNat T21.dflt).2 ≤ y5)) then
  f_u96_22 k j y0 y1 y2 ((IntKind.i64.wrap (y3 + 1))) y4 y5 y6 y7 y8 y9
  else
  if ((IntKind.i64.wrap (y4 + (1 : Int)) == (↑y8.length : Int)) = false → (0 : Int) ≤ IntKind.i64.wrap (y4 + (1 : Int))) ∧ ((IntKind.i64.wrap (y4 + (1 : Int)) == (↑y8.length : Int)) = false → IntKind.i64.wrap (y4 + (1 : Int)) < (↑y8.length : Int)) then
  bif (IntKind.i64.wrap (y4 + (1 : Int)) == (↑y8.length : Int) || y8.getD (IntKind.i64.wrap (y4 + (1 : Int))).toNat (RTy.int IntKind.i64).dflt == y5) then
  f_u96_18 k j y0 y1 y2 y3 y6 ((IntKind.i64.wrap (y7 + 1))) y8 y9
  else
  if (decide (y2 < (↑y0.length : Int)) = true → 0 ≤ y2) ∧ (decide (y2 < (↑y0.length : Int)) = true → y2 < (↑y0.length : Int)) ∧ (decide (y3 < (↑y1.length : Int)) = true → 0 ≤ y3) ∧ (decide (y3 < (↑y1.length : Int)) = true → y3 < (↑y1.length : Int)) ∧ ((f_u92 k (decide (y2 < (↑y0.length : Int)) && decide ((y0.getD y2.toNat T21.dflt).1 ≤ y5)) (decide (y3 < (↑y1.length : Int)) && decide ((y1.getD y3.toNat T21.dflt).1 ≤ y5))).isSome = true) then
  bif (v_u92 k (decide (y2 < (↑y0.length : Int)) && decide ((y0.getD y2.toNat T21.dflt).1 ≤ y5)) (decide (y3 < (↑y1.length : Int)) && decide ((y1.getD y3.toNat T21.dflt).1 ≤ y5))) then
  if ((0 : Int) ≤ IntKind.i64.wrap (y4 + (1 : Int))) ∧ (IntKind.i64.wrap (y4 + (1 : Int)) < (↑y8.length : Int)) ∧ ((y9.length + [(y5, y8.getD (IntKind.i64.wrap (y4 + (1 : Int))).toNat (RTy.int IntKind.i64).dflt)].length) * (16 : Nat) ≤ (140737488355328 : Nat)) then
  f_u96_18 k j y0 y1 y2 y3 y6 ((IntKind.i64.wrap (y7 + 1))) y8 ((y9 ++ [(y5, y8.getD (IntKind.i64.wrap (y4 + 1)).toNat (RTy.int IntKind.i64).dflt)]))
  else none
  else
  f_u96_18 k j y0 y1 y2 y3 y6 ((IntKind.i64.wrap (y7 + 1))) y8 y9
  else none
  else none
  else none
def f_u96_28 (k : Nat) : Nat → List (T21).T → Option R_u96
  | 0, _ => none
  | j + 1, y0 =>
  if ((f_u94 k y0).isSome = true) then
  bif (decide ((↑ (List.length (v_u94 k y0)) : Int) > (256 : Int))) then
  some (([], 8))
  else
  some ((v_u94 k y0, 0))
  else none
end
def f_u96 (k : Nat) (t_ : List (T21).T) (o_ : List (T21).T) : Option R_u96 :=
  if ((f_u90 k t_).isSome = true) then
  bif (v_u90 k t_ != (0 : Int)) then
  some (([], v_u90 k t_))
  else
  if ((f_u90 k o_).isSome = true) then
  bif (v_u90 k o_ != (0 : Int)) then
  some (([], v_u90 k o_))
  else
  if ((f_u94 k t_).isSome = true) ∧ ((f_u94 k o_).isSome = true) then
  if ((f_u86 k [v_u94 k t_, v_u94 k o_]).isSome = true) then
  f_u96_10 k k ((v_u94 k t_)) ((v_u94 k o_)) ((↑ (List.length (v_u86 k [v_u94 k t_, v_u94 k o_])) : Int)) 0 ([]) ((v_u86 k [v_u94 k t_, v_u94 k o_]))
  else none
  else none
  else none
  else none
def v_u96 (k : Nat) (t_ : List (T21).T) (o_ : List (T21).T) : R_u96 := (f_u96 k t_ o_).getD ([], 0)
def ke_u96 (k : Nat) : Ke := (210, fun xs => match xs with
  | [_, _, .r (.v (.func (.func 211) _ _))] => some [false, false, false]
  | _ => none, fun xs bs => match xs, bs with
  | [.r (.ro tt__ qt_), .r (.ro to__ qo_), .r (.v (.func (.func 211) _ _))], [] => (castL tt__ T21 qt_).bind fun t_ => (castL to__ T21 qo_).bind fun o_ => some (.one (res_u96 (v_u96 k t_ o_), bo_u96 t_ o_ (v_u96 k t_ o_)))
  | _, _ => none)
def K_u96 (k : Nat) : Calld := mkK [ke_u90 k, ke_u94 k, ke_u86 k, ke_u89 k, ke_u92 k]
def cs_u96 : List (Nat × List Cmd) := [(10, [.row 10 3 I, .autoB [0, 1, 2, 10, 35, 36, 37] false []]), (18, [.row 13 91 T21, .autoB [0, 1, 2, 10, 13, 14, 15, 51, 52, 53] false []]), (20, [.autoB [0, 1, 2, 10, 13, 14, 15, 16, 17, 51, 52, 53] false []]), (22, [.autoB [0, 1, 2, 10, 13, 14, 15, 16, 17, 51, 52, 53] false []]), (28, [.frz 13 false (RTy.list T21), .autoB [13] false []])]
abbrev E_u96 (t_ : List (T21).T) (o_ : List (T21).T) (todo : List Item) (st : St) (o : Option R_u96) : Prop := ∀ r, o = some r → Ev Tryz.prog Tryz.f210 0 todo st (res_u96 r) (bo_u96 t_ o_ r)
theorem ev_u96 (k : Nat) (t_ : List (T21).T) (o_ : List (T21).T) : ∀ j, (∀ (y0 : List (T21).T) (y1 : List (T21).T) (y2 : Int) (y3 : Int) (y4 : List (I).T) (y5 : List (T21).T), E_u96 t_ o_ (placeAt Tryz.f210 10) (st_u96_10 y0 y1 y2 y3 y4 y5) (f_u96_10 k j y0 y1 y2 y3 y4 y5)) ∧ (∀ (y0 : List (T21).T) (y1 : List (T21).T) (y2 : Int) (y3 : Int) (y4 : Int) (y5 : Int) (y6 : List (RTy.int IntKind.i64).T) (y7 : List (T21).T), E_u96 t_ o_ (placeAt Tryz.f210 18) (st_u96_18 y0 y1 y2 y3 y4 y5 y6 y7) (f_u96_18 k j y0 y1 y2 y3 y4 y5 y6 y7)) ∧ (∀ (y0 : List (T21).T) (y1 : List (T21).T) (y2 : Int) (y3 : Int) (y4 : Int) (y5 : Int) (y6 : Int) (y7 : Int) (y8 : List (RTy.int IntKind.i64).T) (y9 : List (T21).T), E_u96 t_ o_ (placeAt Tryz.f210 20) (st_u96_20 y0 y1 y2 y3 y4 y5 y6 y7 y8 y9) (f_u96_20 k j y0 y1 y2 y3 y4 y5 y6 y7 y8 y9)) ∧ (∀ (y0 : List (T21).T) (y1 : List (T21).T) (y2 : Int) (y3 : Int) (y4 : Int) (y5 : Int) (y6 : Int) (y7 : Int) (y8 : List (RTy.int IntKind.i64).T) (y9 : List (T21).T), E_u96 t_ o_ (placeAt Tryz.f210 22) (st_u96_22 y0 y1 y2 y3 y4 y5 y6 y7 y8 y9) (f_u96_22 k j y0 y1 y2 y3 y4 y5 y6 y7 y8 y9)) ∧ (∀ (y0 : List (T21).T), E_u96 t_ o_ (placeAt Tryz.f210 28) (st_u96_28 y0) (f_u96_28 k j y0))
  | 0 => ⟨fun _ _ _ _ _ _ _ h => (nomatch h), fun _ _ _ _ _ _ _ _ _ h => (nomatch h), fun _ _ _ _ _ _ _ _ _ _ _ h => (nomatch h), fun _ _ _ _ _ _ _ _ _ _ _ h => (nomatch h), fun _ _ h => (nomatch h)⟩
  | j + 1 => by
    have ih := @ev_u96 k t_ o_ j
    refine ⟨?_, ?_, ?_, ?_, ?_⟩
    · intro y0 y1 y2 y3 y4 y5 r h
      rw [f_u96_10] at h
      exact go (K_u96 k) [28] cs_u96 [.frz 6 false (RTy.list T21), .autoB [6, 7] true []] (gT h (fun c h => gN2 h fun h => gN1 h id fun h => gC h 10 (ih.1 _ _ _ _ _ _ _)) fun c h => gN1 h (fun q => cc_u89 q) fun h => gC h 18 (ih.2.1 _ _ _ _ _ _ _ _ _)) (by kernel_rfl)
    · intro y0 y1 y2 y3 y4 y5 y6 y7 r h
      rw [f_u96_18] at h
      exact go (K_u96 k) [28] cs_u96 [.frz 6 false (RTy.list T21), .autoB [6, 7] true []] (gT h (fun c h => gN2 h fun h => gC h 20 (ih.2.2.1 _ _ _ _ _ _ _ _ _ _ _)) fun c h => gC h 28 (ih.2.2.2.2 _ _)) (by kernel_rfl)
    · intro y0 y1 y2 y3 y4 y5 y6 y7 y8 y9 r h
      rw [f_u96_20] at h
      exact go (K_u96 k) [28] cs_u96 [.frz 6 false (RTy.list T21), .autoB [6, 7] true []] (gN2 h fun h => gT h (fun c h => gC h 20 (ih.2.2.1 _ _ _ _ _ _ _ _ _ _ _)) fun c h => gC h 22 (ih.2.2.2.1 _ _ _ _ _ _ _ _ _ _ _)) (by kernel_rfl)
    · intro y0 y1 y2 y3 y4 y5 y6 y7 y8 y9 r h
      rw [f_u96_22] at h
      exact go (K_u96 k) [28] cs_u96 [.frz 6 false (RTy.list T21), .autoB [6, 7] true []] (gN2 h fun h => gT h (fun c h => gC h 22 (ih.2.2.2.1 _ _ _ _ _ _ _ _ _ _ _)) fun c h => gN2 h fun h => gT h (fun c h => gC h 18 (ih.2.1 _ _ _ _ _ _ _ _ _)) fun c h => gN h (fun q => conjC q.1 (conjC q.2.1 (conjC q.2.2.1 (conjC q.2.2.2.1 (conjC (cc_u92 q.2.2.2.2) conj0))))) fun h => gT h (fun c h => gN h (fun q => conjC q.1 (conjC q.2.1 (conjC q.2.2 conj0))) fun h => gC h 18 (ih.2.1 _ _ _ _ _ _ _ _ _)) fun c h => gC h 18 (ih.2.1 _ _ _ _ _ _ _ _ _)) (by kernel_rfl)
    · intro y0 r h
      rw [f_u96_28] at h
      exact go (K_u96 k) [28] cs_u96 [.frz 6 false (RTy.list T21), .autoB [6, 7] true []] (gN1 h (fun q => cc_u94 q) fun h => gT h (fun c h => gL h) fun c h => gL h) (by kernel_rfl)
theorem of_u96 (k : Nat) (t_ : List (T21).T) (o_ : List (T21).T) (r : R_u96) (h : f_u96 k t_ o_ = some r) : C_u96 t_ o_ r := by
  refine CC.of (fn := Tryz.f210) (by kernel_rfl) (by kernel_rfl) (by kernel_rfl) (by kernel_rfl) ?_
  unfold f_u96 at h
  exact go (K_u96 k) [28] cs_u96 [.frz 6 false (RTy.list T21), .autoB [6, 7] true []] (gN1 h (fun q => cc_u90 q) fun h => gT h (fun c h => gL h) fun c h => gN1 h (fun q => cc_u90 q) fun h => gT h (fun c h => gL h) fun c h => gN h (fun q => conjC (cc_u94 q.1) (conjC (cc_u94 q.2) conj0)) fun h => gN1 h (fun q => cc_u86 q) fun h => gC h 10 ((ev_u96 k t_ o_ k).1 _ _ _ _ _ _ _)) (by kernel_rfl)
theorem cc_u96 {k : Nat} {t_ : List (T21).T} {o_ : List (T21).T} (h : (f_u96 k t_ o_).isSome = true) : C_u96 t_ o_ (v_u96 k t_ o_) := ccG (Φ := C_u96 t_ o_) h (of_u96 k t_ o_)
abbrev R_u91 : Type := List (T21).T × Int
def res_u91 (r : R_u91) : AV := .tup [.r (.ro T21 r.1), .r (.v (.int .i64 r.2))]
def bo_u91 (l_ : List (T21).T) (r : R_u91) : List (Nat × Blk) := []
def args_u91 (l_ : List (T21).T) : List AV := [.r (.ro T21 l_)]
def bin_u91 (l_ : List (T21).T) : List Blk := []
abbrev C_u91 (l_ : List (T21).T) (r : R_u91) : Prop := CC Tryz.prog 166 (args_u91 l_) (bin_u91 l_) (res_u91 r) (bo_u91 l_ r)
def f_u91 (k : Nat) (l_ : List (T21).T) : Option R_u91 :=
  if ((f_u96 k l_ []).isSome = true) then
  some (((v_u96 k l_ []).1, (v_u96 k l_ []).2))
  else none
def v_u91 (k : Nat) (l_ : List (T21).T) : R_u91 := (f_u91 k l_).getD ([], 0)
def ke_u91 (k : Nat) : Ke := (166, fun xs => match xs with
  | [_] => some [false]
  | _ => none, fun xs bs => match xs, bs with
  | [.r (.ro tl__ ql_)], [] => (castL tl__ T21 ql_).bind fun l_ => some (.one (res_u91 (v_u91 k l_), bo_u91 l_ (v_u91 k l_)))
  | _, _ => none)
theorem of_u91 (k : Nat) (l_ : List (T21).T) (r : R_u91) (h : f_u91 k l_ = some r) : C_u91 l_ r := by
  refine CC.of (fn := Tryz.f166) (by kernel_rfl) (by kernel_rfl) (by kernel_rfl) (by kernel_rfl) ?_
  unfold f_u91 at h
  exact go (mkK [ke_u92 k, ke_u96 k]) [] [] [.frz 2 false (RTy.list T21), .autoB [2, 3] true []] (gN1 h (fun q => cc_u96 q) fun h => gL h) (by kernel_rfl)
theorem cc_u91 {k : Nat} {l_ : List (T21).T} (h : (f_u91 k l_).isSome = true) : C_u91 l_ (v_u91 k l_) := ccG (Φ := C_u91 l_) h (of_u91 k l_)
abbrev R_u35 : Type := List (T21).T × Int
def res_u35 (r : R_u35) : AV := .tup [.r (.ro T21 r.1), .r (.v (.int .i64 r.2))]
def bo_u35 (m_ : List (T3).T) (r : R_u35) : List (Nat × Blk) := []
def args_u35 (m_ : List (T3).T) : List AV := [.r (.ro T3 m_)]
def bin_u35 (m_ : List (T3).T) : List Blk := []
abbrev C_u35 (m_ : List (T3).T) (r : R_u35) : Prop := CC Tryz.prog 170 (args_u35 m_) (bin_u35 m_) (res_u35 r) (bo_u35 m_ r)
def st_u35_6 (y0 : List (T3).T) (y1 : Int) (y2 : Int) (y3 : List (T21).T) : St := ⟨mkS 29 [(5, .own 1000000 0), (13, .r (.ro T3 y0)), (14, .r (.v (.int .i64 y1))), (15, .r (.v (.int .i64 y2)))], [(1000000, 0, .row 91 T21 y3)]⟩
def st_u35_10 (y0 : List (T21).T) : St := ⟨mkS 29 [(5, .r (.ro T21 y0))], []⟩
mutual
def f_u35_6 (k : Nat) : Nat → List (T3).T → Int → Int → List (T21).T → Option R_u35
  | 0, _, _, _, _ => none
  | j + 1, y0, y1, y2, y3 =>
  bif (decide (y2 < y1)) then
  if (0 ≤ y2) ∧ (y2 < (↑y0.length : Int)) then
  if ((f_u39 k (y0.getD y2.toNat T3.dflt)).isSome = true) ∧ ((y3.length + [v_u39 k (y0.getD y2.toNat T3.dflt)].length) * (16 : Nat) ≤ (140737488355328 : Nat)) then
  f_u35_6 k j y0 y1 ((IntKind.i64.wrap (y2 + 1))) ((y3 ++ [v_u39 k (y0.getD y2.toNat T3.dflt)]))
  else none
  else none
  else
  f_u35_10 k j y3
def f_u35_10 (k : Nat) : Nat → List (T21).T → Option R_u35
  | 0, _ => none
  | j + 1, y0 =>
  if ((f_u91 k y0).isSome = true) then
  some (((v_u91 k y0).1, (v_u91 k y0).2))
  else none
end
def f_u35 (k : Nat) (m_ : List (T3).T) : Option R_u35 :=
  if ((f_u34 k m_).isSome = true) then
  bif (v_u34 k m_ != (0 : Int)) then
  some (([], v_u34 k m_))
  else
  f_u35_6 k k m_ ((↑m_.length : Int)) 0 ([])
  else none
def v_u35 (k : Nat) (m_ : List (T3).T) : R_u35 := (f_u35 k m_).getD ([], 0)
def ke_u35 (k : Nat) : Ke := (170, fun xs => match xs with
  | [_] => some [false]
  | _ => none, fun xs bs => match xs, bs with
  | [.r (.ro tm__ qm_)], [] => (castL tm__ T3 qm_).bind fun m_ => some (.one (res_u35 (v_u35 k m_), bo_u35 m_ (v_u35 k m_)))
  | _, _ => none)
def cs_u35 : List (Nat × List Cmd) := [(6, [.row 5 91 T21, .autoB [5, 13, 14, 15] false []]), (10, [.frz 5 false (RTy.list T21), .autoB [5] false []])]
abbrev E_u35 (m_ : List (T3).T) (todo : List Item) (st : St) (o : Option R_u35) : Prop := ∀ r, o = some r → Ev Tryz.prog Tryz.f170 0 todo st (res_u35 r) (bo_u35 m_ r)
theorem ev_u35 (k : Nat) (m_ : List (T3).T) : ∀ j, (∀ (y0 : List (T3).T) (y1 : Int) (y2 : Int) (y3 : List (T21).T), E_u35 m_ (placeAt Tryz.f170 6) (st_u35_6 y0 y1 y2 y3) (f_u35_6 k j y0 y1 y2 y3)) ∧ (∀ (y0 : List (T21).T), E_u35 m_ (placeAt Tryz.f170 10) (st_u35_10 y0) (f_u35_10 k j y0))
  | 0 => ⟨fun _ _ _ _ _ h => (nomatch h), fun _ _ h => (nomatch h)⟩
  | j + 1 => by
    have ih := @ev_u35 k m_ j
    refine ⟨?_, ?_⟩
    · intro y0 y1 y2 y3 r h
      rw [f_u35_6] at h
      exact go (mkK [ke_u34 k, ke_u39 k, ke_u91 k]) [10] cs_u35 [.frz 2 false (RTy.list T21), .autoB [2, 3] true []] (gT h (fun c h => gN2 h fun h => gN h (fun q => conjC (cc_u39 q.1) (conjC q.2 conj0)) fun h => gC h 6 (ih.1 _ _ _ _ _)) fun c h => gC h 10 (ih.2 _ _)) (by kernel_rfl)
    · intro y0 r h
      rw [f_u35_10] at h
      exact go (mkK [ke_u34 k, ke_u39 k, ke_u91 k]) [10] cs_u35 [.frz 2 false (RTy.list T21), .autoB [2, 3] true []] (gN1 h (fun q => cc_u91 q) fun h => gL h) (by kernel_rfl)
theorem of_u35 (k : Nat) (m_ : List (T3).T) (r : R_u35) (h : f_u35 k m_ = some r) : C_u35 m_ r := by
  refine CC.of (fn := Tryz.f170) (by kernel_rfl) (by kernel_rfl) (by kernel_rfl) (by kernel_rfl) ?_
  unfold f_u35 at h
  exact go (mkK [ke_u34 k, ke_u39 k, ke_u91 k]) [10] cs_u35 [.frz 2 false (RTy.list T21), .autoB [2, 3] true []] (gN1 h (fun q => cc_u34 q) fun h => gT h (fun c h => gL h) fun c h => gC h 6 ((ev_u35 k m_ k).1 _ _ _ _ _)) (by kernel_rfl)
theorem cc_u35 {k : Nat} {m_ : List (T3).T} (h : (f_u35 k m_).isSome = true) : C_u35 m_ (v_u35 k m_) := ccG (Φ := C_u35 m_) h (of_u35 k m_)
abbrev R_u37 : Type := Bool
def res_u37 (r : R_u37) : AV := .r (.v (.bool r))
def bo_u37 (m_ : List (T3).T) (r : R_u37) : List (Nat × Blk) := []
def args_u37 (m_ : List (T3).T) : List AV := [.r (.ro T3 m_)]
def bin_u37 (m_ : List (T3).T) : List Blk := []
abbrev C_u37 (m_ : List (T3).T) (r : R_u37) : Prop := CC Tryz.prog 120 (args_u37 m_) (bin_u37 m_) (res_u37 r) (bo_u37 m_ r)
def f_u37 (k : Nat) (m_ : List (T3).T) : Option R_u37 :=
  if ((f_u35 k m_).isSome = true) then
  bif ((v_u35 k m_).2 != (0 : Int)) then
  some false
  else
  if ((f_u93 k (v_u35 k m_).1).isSome = true) then
  bif ((v_u93 k (v_u35 k m_).1).2 == (0 : Int)) then
  if (((v_u93 k (v_u35 k m_).1).2 == (0 : Int)) = true) ∧ ((f_u40 k m_).isSome = true) then
  some (true && (v_u93 k (v_u35 k m_).1).1 == v_u40 k m_)
  else none
  else
  if (((v_u93 k (v_u35 k m_).1).2 == (0 : Int)) = false) then
  some false
  else none
  else none
  else none
def v_u37 (k : Nat) (m_ : List (T3).T) : R_u37 := (f_u37 k m_).getD false
def ke_u37 (k : Nat) : Ke := (120, fun xs => match xs with
  | [_] => some [false]
  | _ => none, fun xs bs => match xs, bs with
  | [.r (.ro tm__ qm_)], [] => (castL tm__ T3 qm_).bind fun m_ => some (.one (res_u37 (v_u37 k m_), bo_u37 m_ (v_u37 k m_)))
  | _, _ => none)
theorem of_u37 (k : Nat) (m_ : List (T3).T) (r : R_u37) (h : f_u37 k m_ = some r) : C_u37 m_ r := by
  refine CC.of (fn := Tryz.f120) (by kernel_rfl) (by kernel_rfl) (by kernel_rfl) (by kernel_rfl) ?_
  unfold f_u37 at h
  exact go (mkK [ke_u40 k, ke_u93 k, ke_u35 k]) [] [] [.autoB [2] true []] (gN1 h (fun q => cc_u35 q) fun h => gT h (fun c h => gL h) fun c h => gN1 h (fun q => cc_u93 q) fun h => gT h (fun c h => gN h (fun q => conjC q.1 (conjC (cc_u40 q.2) conj0)) fun h => gL h) fun c h => gN1 h id fun h => gL h) (by kernel_rfl)
theorem cc_u37 {k : Nat} {m_ : List (T3).T} (h : (f_u37 k m_).isSome = true) : C_u37 m_ (v_u37 k m_) := ccG (Φ := C_u37 m_) h (of_u37 k m_)
end
end Go.AM
namespace Go.AM
open Go Go.Proofs
noncomputable section
end
end Go.AM
namespace Go.AM
open Go Go.Proofs
noncomputable section
end
end Go.AM
namespace Go.AM
open Go Go.Proofs
noncomputable section
end
end Go.AM
namespace Go.AM
open Go Go.Proofs
noncomputable section
end
end Go.AM
namespace Go.AM
open Go Go.Proofs
noncomputable section
end
end Go.AM
namespace Go.AM
open Go Go.Proofs
noncomputable section
end
end Go.AM
namespace Go.AM
open Go Go.Proofs
noncomputable section
end
end Go.AM
namespace Go.AM
open Go Go.Proofs
noncomputable section
end
end Go.AM
namespace Go.AM
open Go Go.Proofs
noncomputable section
end
end Go.AM
namespace Go.AM
open Go Go.Proofs
noncomputable section
end
end Go.AM
namespace Go.AM
open Go Go.Proofs
noncomputable section
end
end Go.AM
namespace Go.AM
open Go Go.Proofs
noncomputable section
end
end Go.AM
namespace Go.AM
open Go Go.Proofs
noncomputable section
end
/-! ### maps: the program's functions and the reference's -/
theorem iso_image_s (k : Nat) (r : Rn) (x : Int) (h1 : -4611686018427387904 ≤ r.1) (h2 : r.1 ≤ 4611686018427387903) (h3 : -4611686018427387904 ≤ x) (h4 : x ≤ 4611686018427387903) : f_u38 k r x = some (img r x) := by
  unfold f_u38 img
  cases r.2.2
  · rw [cond_false, wrap_id (by omega) (by omega), if_neg (by decide)]
  · rw [cond_true, wrap_id (by omega) (by omega), if_pos rfl]
theorem iso_image_v (k : Nat) (r : Rn) (x : Int) (h1 : -4611686018427387904 ≤ r.1) (h2 : r.1 ≤ 4611686018427387903) (h3 : -4611686018427387904 ≤ x) (h4 : x ≤ 4611686018427387903) : v_u38 k r x = img r x := by
  unfold v_u38; rw [iso_image_s k r x h1 h2 h3 h4]; rfl
/-- a test of a run alone, as the program has it -/
theorem good_test {r : Rn} : good r ↔ ¬ ((decide (r.2.1 < 1) || decide (r.2.1 > 17179869184) || decide (r.1 < 0) || decide (r.1 ≥ 17179869184)) = true) ∧ ¬ ((r.2.2 && decide (r.1 - r.2.1 + 1 < 0) || (!r.2.2) && decide (r.1 + r.2.1 > 17179869184)) = true) := by
  unfold good
  simp only [Bool.or_eq_true, decide_eq_true_eq, Bool.and_eq_true, Bool.not_eq_true', not_or, not_and]
  constructor
  · rintro ⟨h1, h2, h3, h4, h5, h6⟩
    refine ⟨⟨⟨⟨by omega, by omega⟩, by omega⟩, by omega⟩, fun h => ?_, fun h => ?_⟩
    · have := h5 h; omega
    · have := h6 h; omega
  · rintro ⟨⟨⟨⟨h1, h2⟩, h3⟩, h4⟩, h5, h6⟩
    refine ⟨by omega, by omega, by omega, by omega, fun h => ?_, fun h => ?_⟩
    · have := h5 h; omega
    · have := h6 h; omega

/-- the error of a map, run by run -/
def chkGo : Int → List Rn → Int
  | n, [] => if n > 17179869184 then 21 else 0
  | n, r :: t => if good r then chkGo (n + r.2.1) t else 1
theorem chkGo_eq : ∀ (m : List Rn) (n : Int), chkGo n m = if goods m then (if n + lenS m > 17179869184 then 21 else 0) else 1
  | [], n => by simp [chkGo, goods, lenS]
  | r :: t, n => by
    unfold chkGo
    by_cases h : good r
    · rw [if_pos h, chkGo_eq t]
      by_cases h2 : goods t
      · rw [if_pos h2, if_pos (show goods (r :: t) from ⟨h, h2⟩)]
        rw [show n + lenS (r :: t) = n + r.2.1 + lenS t by simp only [lenS]; omega]
      · rw [if_neg h2, if_neg (fun h3 : goods (r :: t) => h2 h3.2)]
    · rw [if_neg h, if_neg (fun h3 : goods (r :: t) => h h3.1)]
theorem chk_go (m : List Rn) : chk m = if m.length > 256 then 8 else chkGo 0 m := by
  unfold chk; rw [chkGo_eq, Int.zero_add]

theorem iso_Check_l (k : Nat) (m : List Rn) (hm : m.length ≤ 256) : ∀ (j i : Nat) (n : Int), i ≤ m.length → m.length - i < j → 0 ≤ n → n ≤ (i : Int) * 17179869184 →
    f_u34_5 k j n m (m.length : Int) (i : Int) = some (chkGo n (m.drop i)) := by
  intro j
  induction j with
  | zero => intros; omega
  | succ j ih =>
    intro i n hi hj h0 hn
    unfold f_u34_5
    by_cases h : i < m.length
    · rw [decide_eq_true (by omega : (i : Int) < (m.length : Int)), cond_true, if_pos ⟨by omega, by omega⟩, drop_cons' m i T3.dflt h]
      rw [Int.toNat_natCast]
      unfold chkGo
      by_cases hg : good (m.getD i T3.dflt)
      · obtain ⟨t1, t2⟩ := good_test.1 hg
        have hr := hg
        obtain ⟨g1, g2, g3, g4, _, _⟩ := hr
        rw [if_pos hg, Bool.eq_false_iff.2 t1, cond_false, wrap_id (i := (m.getD i T3.dflt).fst - (m.getD i T3.dflt).snd.fst) (by omega) (by omega), wrap_id (i := (m.getD i T3.dflt).fst - (m.getD i T3.dflt).snd.fst + 1) (by omega) (by omega), wrap_id (i := (m.getD i T3.dflt).fst + (m.getD i T3.dflt).snd.fst) (by omega) (by omega), Bool.eq_false_iff.2 t2, cond_false, wrap_id (i := n + (m.getD i T3.dflt).snd.fst) (by omega) (by omega), wrapS i (by omega)]
        exact ih (i + 1) _ (by omega) (by omega) (by omega) (by omega)
      · rw [if_neg hg]
        by_cases t1 : (decide ((m.getD i T3.dflt).2.1 < 1) || decide ((m.getD i T3.dflt).2.1 > 17179869184) || decide ((m.getD i T3.dflt).1 < 0) || decide ((m.getD i T3.dflt).1 ≥ 17179869184)) = true
        · rw [t1, cond_true]
        · have t2 := fun t2 => hg (good_test.2 ⟨t1, t2⟩)
          have t2 := Classical.not_not.1 t2
          have t3 := t1
          simp only [Bool.or_eq_true, decide_eq_true_eq, not_or] at t3
          obtain ⟨⟨⟨q1, q2⟩, q3⟩, q4⟩ := t3
          rw [Bool.eq_false_iff.2 t1, cond_false, wrap_id (i := (m.getD i T3.dflt).fst - (m.getD i T3.dflt).snd.fst) (by omega) (by omega), wrap_id (i := (m.getD i T3.dflt).fst - (m.getD i T3.dflt).snd.fst + 1) (by omega) (by omega), wrap_id (i := (m.getD i T3.dflt).fst + (m.getD i T3.dflt).snd.fst) (by omega) (by omega), t2, cond_true]
    · rw [decide_eq_false (by omega : ¬ (i : Int) < (m.length : Int)), cond_false, drop_all m i (by omega)]
      unfold chkGo
      by_cases h : n > 17179869184
      · rw [decide_eq_true h, cond_true, if_pos h]
      · rw [decide_eq_false h, cond_false, if_neg h]
theorem iso_Check_s (k : Nat) (hk : 300 ≤ k) (m : List Rn) : f_u34 k m = some (chk m) := by
  unfold f_u34
  rw [chk_go]
  by_cases h : m.length > 256
  · rw [decide_eq_true (by omega : (m.length : Int) > 256), cond_true, if_pos h]
  · rw [decide_eq_false (by omega : ¬ (m.length : Int) > 256), cond_false, if_neg h]
    exact iso_Check_l k m (by omega) k 0 0 (by omega) (by omega) (by omega) (by omega)
theorem iso_Check_v (k : Nat) (hk : 300 ≤ k) (m : List Rn) : v_u34 k m = chk m := by
  unfold v_u34; rw [iso_Check_s k hk]; rfl

theorem iso_length_l (k : Nat) (m : List Rn) (hg : goods m) (hm : m.length ≤ 1000) : ∀ (j i : Nat) (n : Int), i ≤ m.length → m.length - i < j → 0 ≤ n → n ≤ (i : Int) * 17179869184 →
    f_u40_3 k j n m (m.length : Int) (i : Int) = some (n + lenS (m.drop i)) := by
  intro j
  induction j with
  | zero => intros; omega
  | succ j ih =>
    intro i n hi hj h0 hn
    unfold f_u40_3
    by_cases h : i < m.length
    · have hgr : good (m.getD i T3.dflt) := hg.mem _ (by simp [h])
      rw [decide_eq_true (by omega : (i : Int) < (m.length : Int)), cond_true, if_pos ⟨by omega, by omega⟩, drop_cons' m i T3.dflt h]
      rw [Int.toNat_natCast]
      generalize m.getD i T3.dflt = r at hgr
      obtain ⟨g1, g2, _⟩ := hgr
      rw [wrap_id (i := n + r.snd.fst) (by omega) (by omega), wrapS i (by omega), ih (i + 1) _ (by omega) (by omega) (by omega) (by omega)]
      simp only [lenS, Int.add_assoc]
    · rw [decide_eq_false (by omega : ¬ (i : Int) < (m.length : Int)), cond_false, drop_all m i (by omega)]
      simp [lenS]
theorem iso_length_s (k : Nat) (m : List Rn) (hg : goods m) (hm : m.length ≤ 1000) (hk : m.length < k) : f_u40 k m = some (lenS m) := by
  unfold f_u40
  have := iso_length_l k m hg hm k 0 0 (by omega) (by omega) (by omega) (by omega)
  rw [Int.zero_add] at this
  exact this
theorem iso_length_v (k : Nat) (m : List Rn) (hg : goods m) (hm : m.length ≤ 1000) (hk : m.length < k) : v_u40 k m = lenS m := by
  unfold v_u40; rw [iso_length_s k m hg hm hk]; rfl

end Go.AM
namespace Go.AM
open Go Go.Proofs

end Go.AM
namespace Go.AM
open Go

structure EachOk (m : List Rn) (f t : Int) : Prop where
  goods : goods m
  len : m.length ≤ 300
  f0 : -1125899906842624 ≤ f ∧ f ≤ 1125899906842624
  t0 : -1125899906842624 ≤ t ∧ t ≤ 1125899906842624

theorem max_ends {r : Rn} (h : good r) : (if img r (r.2.1 - 1) > r.1 then img r (r.2.1 - 1) else r.1) = hi r := by
  have h1 := h.1
  unfold img hi
  cases r.2.2 <;> simp only [Bool.false_eq_true, if_false, if_true] <;> split <;> omega
theorem min_ends {r : Rn} (h : good r) : (if img r (r.2.1 - 1) < r.1 then img r (r.2.1 - 1) else r.1) = lo r := by
  have h1 := h.1
  unfold img lo
  cases r.2.2 <;> simp only [Bool.false_eq_true, if_false, if_true] <;> split <;> omega

end Go.AM
namespace Go.AM
open Go

end Go.AM
namespace Go.AM
open Go Go.Proofs

theorem fitsIn.mem {n : Int} : ∀ {l : List Rn}, fitsIn n l → ∀ r ∈ l, hi r < n
  | [], _, r, hr => by simp at hr
  | u :: v, ⟨h1, h2⟩, r, hr => by
    rcases List.mem_cons.1 hr with rfl | hr
    · exact h1
    · exact fitsIn.mem h2 r hr
end Go.AM
namespace Go.AM
open Go

theorem asc_of_pairwise : ∀ (l : List Sp) (b : Int), (∀ s ∈ l, b ≤ s.1) → l.Pairwise (fun x y => x.1 ≤ y.1) → Asc b l
  | [], _, _, _ => trivial
  | s :: t, b, h, hp => by
    obtain ⟨h1, h2⟩ := List.pairwise_cons.1 hp
    exact ⟨h s (by simp), asc_of_pairwise t s.1 (fun u hu => h1 u hu) h2⟩

/-- the normal form -/
def nf (l : List Sp) : List Sp := jn0 (sortSP l)

theorem In.small {l : List Sp} (h : In 0 17179869184 l) : ∀ x ∈ l, SmallI x.1 := fun x hx => by
  obtain ⟨a, b, c⟩ := h.mem x hx
  exact ⟨a, by omega⟩
theorem nf_asc {l : List Sp} (h : In 0 17179869184 l) : Asc 0 (sortSP l) :=
  asc_of_pairwise _ 0 (fun s hs => (h.mem s ((perm_sortSP h.small).mem_iff.1 hs)).1) sorted_sortSP
theorem nf_nr {l : List Sp} (h : In 0 17179869184 l) : Nr (-1) (nf l) := jn0_nr _ _ (nf_asc h)
theorem nf_has {l : List Sp} (h : In 0 17179869184 l) (x : Int) : has (nf l) x ↔ has l x := by
  unfold nf
  rw [jn0_has _ 0 x (nf_asc h), has_perm (perm_sortSP h.small)]
theorem nf_in {l : List Sp} (h : In 0 17179869184 l) : In 0 17179869184 (nf l) :=
  jn0_in _ (In.of fun s hs => h.mem s ((perm_sortSP h.small).mem_iff.1 hs))
theorem nf_len {l : List Sp} (h : In 0 17179869184 l) : (nf l).length ≤ l.length := by
  have := jn0_len (sortSP l)
  rw [(perm_sortSP h.small).length_eq] at this
  exact this
theorem nf_uniq {l m : List Sp} (h : In 0 17179869184 l) (hm : Nr (-1) m) (he : ∀ x, has m x ↔ has l x) : m = nf l :=
  Nr.uniq hm (nf_nr h) fun x => (he x).trans (nf_has h x).symm
theorem nf_self {l : List Sp} (h : In 0 17179869184 l) (hn : Nr (-1) l) : nf l = l := (nf_uniq h hn fun _ => Iff.rfl).symm

/-- the error of a list of spans -/
def chkS (l : List Sp) : Int := if l.length > 256 then 8 else if l.all (fun s => decide (0 ≤ s.1 ∧ s.1 ≤ s.2 ∧ s.2 ≤ 17179869184)) = true then 0 else 1
theorem chkS_zero {l : List Sp} : chkS l = 0 ↔ l.length ≤ 256 ∧ In 0 17179869184 l := by
  unfold chkS
  constructor
  · intro h
    by_cases h1 : l.length > 256
    · rw [if_pos h1] at h; omega
    · rw [if_neg h1] at h
      by_cases h2 : l.all (fun s => decide (0 ≤ s.1 ∧ s.1 ≤ s.2 ∧ s.2 ≤ 17179869184)) = true
      · exact ⟨by omega, In.of fun s hs => of_decide_eq_true (List.all_eq_true.1 h2 s hs)⟩
      · rw [if_neg h2] at h; omega
  · rintro ⟨h1, h2⟩
    rw [if_neg (by omega), if_pos (List.all_eq_true.2 fun s hs => decide_eq_true (h2.mem s hs))]

/-- the normal form of a list of spans, or its error -/
def normS (l : List Sp) : List Sp × Int := if chkS l ≠ 0 then ([], chkS l) else (nf l, 0)
def totalS (l : List Sp) : Int × Int := if chkS l ≠ 0 then (0, chkS l) else (tot (nf l), 0)

end Go.AM
namespace Go.AM
open Go

/-! ### the reference's way to the normal form -/
def ins : List Int → Int → List Int
  | [], n => [n]
  | x :: t, n => if x < n then x :: ins t n else if x = n then x :: t else n :: x :: t
def hasB (l : List Sp) (x : Int) : Bool := l.any fun s => decide (s.1 ≤ x) && decide (x < s.2)
/-- between two neighbours of the list, the first of which is in the set -/
def seg (a : List Sp) : List Int → Int → Prop
  | x :: y :: t, z => (hasB a x = true ∧ x ≤ z ∧ z < y) ∨ seg a (y :: t) z
  | _, _ => False

theorem eqT_sp (a b : Sp) : eqT T21 a b = decide (a = b) := by
  show ((a.1 == b.1) && (a.2 == b.2)) = _
  by_cases h1 : a.1 = b.1 <;> by_cases h2 : a.2 = b.2 <;> simp [h1, h2, Prod.ext_iff]

theorem span_Check_l (k : Nat) (l : List Sp) (hl : l.length ≤ 256) : ∀ (j i : Nat), i ≤ l.length → l.length - i < j →
    f_u90_4 k j l (l.length : Int) (i : Int) = some (if (l.drop i).all (fun s => decide (0 ≤ s.1 ∧ s.1 ≤ s.2 ∧ s.2 ≤ 17179869184)) = true then 0 else 1) := by
  intro j
  induction j with
  | zero => intros; omega
  | succ j ih =>
    intro i hi hj
    rw [f_u90_4]
    by_cases h : i < l.length
    · rw [decide_eq_true (by omega : (i : Int) < (l.length : Int)), cond_true, if_pos ⟨by omega, by omega⟩, drop_cons' l i T21.dflt h, Int.toNat_natCast, List.all_cons]
      generalize l.getD i T21.dflt = s
      by_cases hs : 0 ≤ s.1 ∧ s.1 ≤ s.2 ∧ s.2 ≤ 17179869184
      · rw [decide_eq_false (by omega : ¬ s.fst < 0), decide_eq_false (by omega : ¬ s.fst > s.snd), decide_eq_false (by omega : ¬ s.snd > 17179869184), Bool.or_self, Bool.or_self, cond_false, wrapS i (by omega), ih (i + 1) (by omega) (by omega), decide_eq_true hs, Bool.true_and]
      · have : (decide (s.fst < 0) || decide (s.fst > s.snd) || decide (s.snd > 17179869184)) = true := by
          by_cases a : s.fst < 0
          · rw [decide_eq_true a]; rfl
          · by_cases b : s.fst > s.snd
            · rw [decide_eq_true b, Bool.or_true]; rfl
            · rw [decide_eq_true (by omega : s.snd > 17179869184), Bool.or_true]
        rw [this, cond_true, decide_eq_false hs, Bool.false_and, if_neg (by decide)]
    · rw [decide_eq_false (by omega : ¬ (i : Int) < (l.length : Int)), cond_false, drop_all l i (by omega)]
      rfl
theorem span_Check_s (k : Nat) (hk : 300 ≤ k) (l : List Sp) : f_u90 k l = some (chkS l) := by
  unfold f_u90 chkS
  by_cases h : l.length > 256
  · rw [decide_eq_true (by omega : (l.length : Int) > 256), cond_true, if_pos h]
  · rw [decide_eq_false (by omega : ¬ (l.length : Int) > 256), cond_false, if_neg h]
    exact span_Check_l k l (by omega) k 0 (by omega) (by omega)
theorem span_Check_v (k : Nat) (hk : 300 ≤ k) (l : List Sp) : v_u90 k l = chkS l := by
  unfold v_u90; rw [span_Check_s k hk]; rfl

theorem last_idxS (pre : List Sp) (c : Sp) (h : pre.length < 4611686018427387904) : (IntKind.i64.wrap (((pre ++ [c]).length : Int) - 1)).toNat = pre.length := by
  rw [List.length_append, List.length_singleton, wrap_id (by omega) (by omega)]; omega
theorem last_getS (pre : List Sp) (c d : Sp) : (pre ++ [c]).getD pre.length d = c := by simp
theorem last_setS (pre : List Sp) (c d : Sp) : (pre ++ [c]).set pre.length d = pre ++ [d] := by simp

theorem span_joined_l (k : Nat) (l : List Sp) (hl : l.length ≤ 100000) : ∀ (j i : Nat), i ≤ l.length → l.length - i < j →
    (∀ last : Sp, last.1 ≥ last.2 → f_u94_6 k j (l.length : Int) (i : Int) [] last l = some (jn0 (l.drop i))) ∧
    (∀ (pre : List Sp) (c last : Sp), pre.length ≤ i → (last.1 ≥ last.2 ∨ last.2 ≤ c.2) → f_u94_6 k j (l.length : Int) (i : Int) (pre ++ [c]) last l = some (pre ++ jn c (l.drop i))) := by
  intro j
  induction j with
  | zero => intros; omega
  | succ j ih =>
    intro i hi hj
    by_cases h : i < l.length
    · refine ⟨fun last hla => ?_, fun pre c last hp hla => ?_⟩
      · rw [f_u94_6, decide_eq_true (by omega : (i : Int) < (l.length : Int)), cond_true, if_pos ⟨by omega, by omega⟩, drop_cons' l i T21.dflt h, Int.toNat_natCast, eqT_sp, jn0]
        obtain ⟨ih1, ih2⟩ := ih (i + 1) (by omega) (by omega)
        generalize l.getD i T21.dflt = s at *
        by_cases q : s.1 ≥ s.2
        · rw [decide_eq_true q, Bool.true_or, cond_true, if_pos q, wrapS i (by omega)]
          exact ih1 s q
        · have hne : ¬ s = last := fun e => q (e ▸ hla)
          rw [decide_eq_false q, decide_eq_false hne, Bool.false_or, cond_false, if_neg q, wrapS i (by omega)]
          rw [if_pos ⟨fun e => (by simp at e), fun e => (by simp at e)⟩]
          show (bif decide ((0 : Int) > 0) && _ then _ else _) = _
          rw [decide_eq_false (by omega), Bool.false_and, cond_false, if_pos (by simp), List.nil_append]
          exact ih2 [] s s (by simp) (.inr (Int.le_refl _))
      · rw [f_u94_6, decide_eq_true (by omega : (i : Int) < (l.length : Int)), cond_true, if_pos ⟨by omega, by omega⟩, drop_cons' l i T21.dflt h, Int.toNat_natCast, eqT_sp, jn]
        obtain ⟨ih1, ih2⟩ := ih (i + 1) (by omega) (by omega)
        generalize l.getD i T21.dflt = s at *
        have hlen : (pre ++ [c]).length = pre.length + 1 := by simp
        by_cases q : s.1 ≥ s.2
        · rw [decide_eq_true q, Bool.true_or, cond_true, if_pos q, wrapS i (by omega)]
          exact ih2 pre c s (by omega) (.inl q)
        · rw [if_neg q, decide_eq_false q, Bool.false_or]
          by_cases he : s = last
          · have h2 : s.2 ≤ c.2 := by
              subst he
              rcases hla with h | h
              · exact absurd h q
              · exact h
            rw [decide_eq_true he, cond_true, wrapS i (by omega), if_pos (by omega), if_neg (by omega)]
            exact ih2 pre c s (by omega) (.inr h2)
          · have hidx : (0 : Int) ≤ IntKind.i64.wrap (((pre ++ [c]).length : Int) - 1) ∧ IntKind.i64.wrap (((pre ++ [c]).length : Int) - 1) < ((pre ++ [c]).length : Int) := by
              rw [hlen, wrap_id (by omega) (by omega)]; exact ⟨by omega, by omega⟩
            rw [decide_eq_false he, cond_false, if_pos ⟨fun _ => hidx.1, fun _ => hidx.2⟩, decide_eq_true (by rw [hlen]; omega), Bool.true_and, last_idxS pre c (by omega), last_getS, last_setS, wrapS i (by omega)]
            by_cases q2 : s.1 ≤ c.2
            · rw [decide_eq_true q2, cond_true, if_pos ⟨hidx.1, hidx.2, hidx.1, hidx.2⟩, if_pos q2]
              exact ih2 pre (c.1, if s.2 > c.2 then s.2 else c.2) s (by omega) (.inr (by show s.2 ≤ if s.2 > c.2 then s.2 else c.2; split <;> omega))
            · rw [decide_eq_false q2, cond_false, if_pos (by rw [hlen, List.length_singleton]; omega), if_neg q2]
              rw [ih2 (pre ++ [c]) s s (by simp; omega) (.inr (Int.le_refl _))]
              simp
    · have hd := drop_all l i (by omega)
      refine ⟨fun last hla => ?_, fun pre c last hp hla => ?_⟩
      · rw [f_u94_6, decide_eq_false (by omega : ¬ (i : Int) < (l.length : Int)), cond_false, hd]; rfl
      · rw [f_u94_6, decide_eq_false (by omega : ¬ (i : Int) < (l.length : Int)), cond_false, hd]; rfl
theorem span_joined_s (k : Nat) (l : List Sp) (h : In 0 17179869184 l) (hl : l.length ≤ 100000) (hk : l.length < k) : f_u94 k l = some (nf l) := by
  have e1 : f_u85 k l = some l := by
    unfold f_u85; rw [if_pos (by omega)]
  have v1 : v_u85 k l = l := by unfold v_u85; rw [e1]; rfl
  have e2 : f_u88 k l = some (sortSP l) := by
    unfold f_u88
    rw [if_pos ⟨List.all_eq_true.2 fun x hx => decide_eq_true (h.small x hx), by omega⟩, srtSP_eq h.small]
  have v2 : v_u88 k l = sortSP l := by unfold v_u88; rw [e2]; rfl
  have hlen := (perm_sortSP h.small).length_eq
  unfold f_u94
  rw [e1, v1, e2, v2, Option.isSome_some, Option.isSome_some, if_pos rfl, if_pos rfl]
  exact (span_joined_l k (sortSP l) (by omega) k 0 (by omega) (by omega)).1 (0, 0) (Int.le_refl _)
theorem span_joined_v (k : Nat) (l : List Sp) (h : In 0 17179869184 l) (hl : l.length ≤ 100000) (hk : l.length < k) : v_u94 k l = nf l := by
  unfold v_u94; rw [span_joined_s k l h hl hk]; rfl

/-- the ends of spans -/
def ends2 : List Sp → List Int
  | [] => []
  | s :: t => s.1 :: s.2 :: ends2 t
theorem ends2_len : ∀ l : List Sp, (ends2 l).length = 2 * l.length
  | [] => rfl
  | s :: t => by simp only [ends2, List.length_cons, ends2_len t]; omega
theorem ends2_fst : ∀ (l : List Sp) (p : Nat), p < l.length → (ends2 l).getD (2 * p) 0 = (l.getD p (0, 0)).1
  | s :: t, 0, _ => rfl
  | s :: t, p + 1, h => by
    have := ends2_fst t p (by simpa using h)
    rw [show 2 * (p + 1) = 2 * p + 1 + 1 by omega]
    simpa [ends2] using this
theorem ends2_snd : ∀ (l : List Sp) (p : Nat), p < l.length → (ends2 l).getD (2 * p + 1) 0 = (l.getD p (0, 0)).2
  | s :: t, 0, _ => rfl
  | s :: t, p + 1, h => by
    have := ends2_snd t p (by simpa using h)
    rw [show 2 * (p + 1) + 1 = 2 * p + 1 + 1 + 1 by omega]
    simpa [ends2] using this
theorem ends2_append : ∀ (a b : List Sp), ends2 (a ++ b) = ends2 a ++ ends2 b
  | [], b => rfl
  | s :: t, b => by simp [ends2, ends2_append t b]
theorem ends2_sorted : ∀ {b : Int} {l : List Sp}, Nr b l → (ends2 l).Pairwise (fun x y => x ≤ y) ∧ ∀ x ∈ ends2 l, b ≤ x
  | _, [], _ => ⟨List.Pairwise.nil, by simp [ends2]⟩
  | b, s :: t, ⟨h1, h2, h3⟩ => by
    obtain ⟨i1, i2⟩ := ends2_sorted h3
    refine ⟨List.pairwise_cons.2 ⟨fun x hx => ?_, List.pairwise_cons.2 ⟨fun x hx => i2 x hx, i1⟩⟩, fun x hx => ?_⟩
    · rcases List.mem_cons.1 hx with rfl | hx
      · omega
      · have := i2 x hx; omega
    · rcases List.mem_cons.1 hx with rfl | hx
      · omega
      · rcases List.mem_cons.1 hx with rfl | hx
        · omega
        · have := i2 x hx; omega

/-- neighbours of a normal form -/
theorem Nr.get : ∀ {b : Int} {l : List Sp}, Nr b l → ∀ (p : Nat), p < l.length → (l.getD p (0, 0)).1 < (l.getD p (0, 0)).2 ∧ (p + 1 < l.length → (l.getD p (0, 0)).2 < (l.getD (p + 1) (0, 0)).1)
  | _, [], _, p, h => by simp at h
  | b, s :: t, ⟨h1, h2, h3⟩, 0, h => by
    refine ⟨h2, fun h' => ?_⟩
    cases t with
    | nil => simp at h'
    | cons u v => exact h3.1
  | b, s :: t, ⟨h1, h2, h3⟩, p + 1, h => by
    have := Nr.get h3 p (by simpa using h)
    simpa using this

theorem span_sets_end (k j : Nat) (a : List Sp) (h : In 0 17179869184 a) (hn : Nr (-1) a) (hl : a.length ≤ 256) (hk : 300 ≤ k) : f_u96_28 k (j + 1) a = some (a, 0) := by
  rw [f_u96_28, span_joined_s k a h (by omega) (by omega), span_joined_v k a h (by omega) (by omega), nf_self h hn, Option.isSome_some, if_pos rfl, decide_eq_false (by omega), cond_false]

theorem span_sets18_l (k : Nat) (hk : 300 ≤ k) (a : List Sp) (h : In 0 17179869184 a) (hn : Nr (-1) a) (hl : a.length ≤ 256) : ∀ (d p : Nat) (j : Nat), a.length - p = d → p ≤ a.length → 7 * d + 2 ≤ j →
    f_u96_18 k j a [] (p : Int) 0 ((ends2 a).length : Int) ((2 * p : Nat) : Int) (ends2 a) (a.take p) = some (a, 0) := by
  intro d
  induction d with
  | zero =>
    intro p j hd hp hj
    obtain ⟨j, rfl⟩ : ∃ m, j = m + 2 := ⟨j - 2, by omega⟩
    have hpa : p = a.length := by omega
    subst hpa
    rw [f_u96_18, ends2_len, decide_eq_false (by omega), cond_false, List.take_length]
    exact span_sets_end k j a h hn hl hk
  | succ d ih =>
    intro p j hd hp hj
    obtain ⟨j, rfl⟩ : ∃ m, j = m + 7 := ⟨j - 7, by omega⟩
    have hpl : p < a.length := by omega
    have hEl := ends2_len a
    have e1 := ends2_fst a p hpl
    have e2 := ends2_snd a p hpl
    obtain ⟨n1, n2⟩ := hn.get p hpl
    have htk := take_snoc a p (0, 0) hpl
    have hd0 : T21.dflt = ((0, 0) : Sp) := rfl
    have hz : (RTy.int IntKind.i64).dflt = (0 : Int) := rfl
    generalize hs : a.getD p (0, 0) = s at *
    -- the beginning of a span
    have b18 : f_u96_18 k (j + 7) a [] (p : Int) 0 ((ends2 a).length : Int) ((2 * p : Nat) : Int) (ends2 a) (a.take p) = f_u96_20 k (j + 6) a [] (p : Int) 0 ((2 * p : Nat) : Int) s.1 ((ends2 a).length : Int) ((2 * p : Nat) : Int) (ends2 a) (a.take p) := by
      rw [show j + 7 = (j + 6) + 1 by omega, f_u96_18, decide_eq_true (by omega), cond_true, if_pos ⟨by omega, by omega⟩, Int.toNat_natCast, hz, e1]
    have b20 : f_u96_20 k (j + 6) a [] (p : Int) 0 ((2 * p : Nat) : Int) s.1 ((ends2 a).length : Int) ((2 * p : Nat) : Int) (ends2 a) (a.take p) = f_u96_22 k (j + 5) a [] (p : Int) 0 ((2 * p : Nat) : Int) s.1 ((ends2 a).length : Int) ((2 * p : Nat) : Int) (ends2 a) (a.take p) := by
      rw [show j + 6 = (j + 5) + 1 by omega, f_u96_20, if_pos ⟨fun _ => by omega, fun _ => by omega⟩, Int.toNat_natCast, hd0, hs, decide_eq_false (by omega : ¬ s.2 ≤ s.1), Bool.and_false, cond_false]
    have b22 : f_u96_22 k (j + 5) a [] (p : Int) 0 ((2 * p : Nat) : Int) s.1 ((ends2 a).length : Int) ((2 * p : Nat) : Int) (ends2 a) (a.take p) = f_u96_18 k (j + 4) a [] (p : Int) 0 ((ends2 a).length : Int) ((2 * p + 1 : Nat) : Int) (ends2 a) (a.take (p + 1)) := by
      rw [show j + 5 = (j + 4) + 1 by omega, f_u96_22, if_pos ⟨fun e => by simp at e, fun e => by simp at e⟩, show (decide ((0 : Int) < (([] : List Sp).length : Int)) && _) = false from rfl, cond_false, wrapS (2 * p) (by omega)]
      rw [if_pos ⟨fun _ => by omega, fun _ => by omega⟩, Int.toNat_natCast, hz, e2, show ((((2 * p + 1 : Nat) : Int) == ((ends2 a).length : Int)) = false) from beqf (by omega), show (s.2 == s.1) = false from beqf (by omega), Bool.or_self, cond_false]
      rw [Int.toNat_natCast, hd0, hs, decide_eq_true (by omega : (p : Int) < (a.length : Int)), decide_eq_true (by omega : s.fst ≤ s.1), Bool.and_self]
      have ek : ∀ b, v_u92 k true b = true := fun b => rfl
      have ef : ∀ b, f_u92 k true b = some true := fun b => rfl
      rw [ek, ef, if_pos ⟨fun _ => by omega, fun _ => by omega, fun e => by simp at e, fun e => by simp at e, rfl⟩, cond_true, if_pos ⟨by omega, by omega, by rw [List.length_singleton, List.length_take]; omega⟩, htk]
    -- its end
    have c18 : f_u96_18 k (j + 4) a [] (p : Int) 0 ((ends2 a).length : Int) ((2 * p + 1 : Nat) : Int) (ends2 a) (a.take (p + 1)) = f_u96_20 k (j + 3) a [] (p : Int) 0 ((2 * p + 1 : Nat) : Int) s.2 ((ends2 a).length : Int) ((2 * p + 1 : Nat) : Int) (ends2 a) (a.take (p + 1)) := by
      rw [show j + 4 = (j + 3) + 1 by omega, f_u96_18, decide_eq_true (by omega), cond_true, if_pos ⟨by omega, by omega⟩, Int.toNat_natCast, hz, e2]
    have c20 : f_u96_20 k (j + 3) a [] (p : Int) 0 ((2 * p + 1 : Nat) : Int) s.2 ((ends2 a).length : Int) ((2 * p + 1 : Nat) : Int) (ends2 a) (a.take (p + 1)) = f_u96_20 k (j + 2) a [] ((p + 1 : Nat) : Int) 0 ((2 * p + 1 : Nat) : Int) s.2 ((ends2 a).length : Int) ((2 * p + 1 : Nat) : Int) (ends2 a) (a.take (p + 1)) := by
      rw [show j + 3 = (j + 2) + 1 by omega, f_u96_20, if_pos ⟨fun _ => by omega, fun _ => by omega⟩, Int.toNat_natCast, hd0, hs, decide_eq_true (by omega : s.snd ≤ s.2), decide_eq_true (by omega : (p : Int) < (a.length : Int)), Bool.and_self, cond_true, wrapS p (by omega)]
    by_cases hlast : p + 1 < a.length
    · have n2 := n2 hlast
      have e3 := ends2_fst a (p + 1) hlast
      obtain ⟨m1, _⟩ := hn.get (p + 1) hlast
      generalize hu : a.getD (p + 1) (0, 0) = u at *
      have d20 : f_u96_20 k (j + 2) a [] ((p + 1 : Nat) : Int) 0 ((2 * p + 1 : Nat) : Int) s.2 ((ends2 a).length : Int) ((2 * p + 1 : Nat) : Int) (ends2 a) (a.take (p + 1)) = f_u96_22 k (j + 1) a [] ((p + 1 : Nat) : Int) 0 ((2 * p + 1 : Nat) : Int) s.2 ((ends2 a).length : Int) ((2 * p + 1 : Nat) : Int) (ends2 a) (a.take (p + 1)) := by
        rw [show j + 2 = (j + 1) + 1 by omega, f_u96_20, if_pos ⟨fun _ => by omega, fun _ => by omega⟩, Int.toNat_natCast, hd0, hu, decide_eq_false (by omega : ¬ u.2 ≤ s.2), Bool.and_false, cond_false]
      have d22 : f_u96_22 k (j + 1) a [] ((p + 1 : Nat) : Int) 0 ((2 * p + 1 : Nat) : Int) s.2 ((ends2 a).length : Int) ((2 * p + 1 : Nat) : Int) (ends2 a) (a.take (p + 1)) = f_u96_18 k j a [] ((p + 1 : Nat) : Int) 0 ((ends2 a).length : Int) ((2 * (p + 1) : Nat) : Int) (ends2 a) (a.take (p + 1)) := by
        rw [f_u96_22, if_pos ⟨fun e => by simp at e, fun e => by simp at e⟩, show (decide ((0 : Int) < (([] : List Sp).length : Int)) && _) = false from rfl, cond_false, wrapS (2 * p + 1) (by omega), show 2 * p + 1 + 1 = 2 * (p + 1) by omega]
        rw [if_pos ⟨fun _ => by omega, fun _ => by omega⟩, Int.toNat_natCast, hz, e3, show ((((2 * (p + 1) : Nat) : Int) == ((ends2 a).length : Int)) = false) from beqf (by omega), show (u.1 == s.2) = false from beqf (by omega), Bool.or_self, cond_false]
        rw [Int.toNat_natCast, hd0, hu, decide_eq_false (by omega : ¬ u.fst ≤ s.2), Bool.and_false]
        have ek : ∀ b, v_u92 k false b = false := fun b => rfl
        have ef : ∀ b, f_u92 k false b = some false := fun b => rfl
        rw [ek, ef, if_pos ⟨fun _ => by omega, fun _ => by omega, fun e => by simp at e, fun e => by simp at e, rfl⟩, cond_false]
      rw [b18, b20, b22, c18, c20, d20, d22]
      exact ih (p + 1) j (by omega) (by omega) (by omega)
    · have hpa : p + 1 = a.length := by omega
      have d20 : f_u96_20 k (j + 2) a [] ((p + 1 : Nat) : Int) 0 ((2 * p + 1 : Nat) : Int) s.2 ((ends2 a).length : Int) ((2 * p + 1 : Nat) : Int) (ends2 a) (a.take (p + 1)) = f_u96_22 k (j + 1) a [] ((p + 1 : Nat) : Int) 0 ((2 * p + 1 : Nat) : Int) s.2 ((ends2 a).length : Int) ((2 * p + 1 : Nat) : Int) (ends2 a) (a.take (p + 1)) := by
        rw [show j + 2 = (j + 1) + 1 by omega, f_u96_20, if_pos ⟨fun _ => by omega, fun e => of_decide_eq_true e⟩, decide_eq_false (by omega : ¬ ((p + 1 : Nat) : Int) < (a.length : Int)), Bool.false_and, cond_false]
      have d22 : f_u96_22 k (j + 1) a [] ((p + 1 : Nat) : Int) 0 ((2 * p + 1 : Nat) : Int) s.2 ((ends2 a).length : Int) ((2 * p + 1 : Nat) : Int) (ends2 a) (a.take (p + 1)) = f_u96_18 k j a [] ((p + 1 : Nat) : Int) 0 ((ends2 a).length : Int) ((2 * (p + 1) : Nat) : Int) (ends2 a) (a.take (p + 1)) := by
        rw [f_u96_22, if_pos ⟨fun e => by simp at e, fun e => by simp at e⟩, show (decide ((0 : Int) < (([] : List Sp).length : Int)) && _) = false from rfl, cond_false, wrapS (2 * p + 1) (by omega), show 2 * p + 1 + 1 = 2 * (p + 1) by omega]
        have hq : (((2 * (p + 1) : Nat) : Int) == ((ends2 a).length : Int)) = true := by simp only [beq_iff_eq]; omega
        rw [hq, if_pos (show (true = false → (0 : Int) ≤ ((2 * (p + 1) : Nat) : Int)) ∧ (true = false → ((2 * (p + 1) : Nat) : Int) < ((ends2 a).length : Int)) from ⟨fun e => (by cases e), fun e => (by cases e)⟩), Bool.true_or, cond_true]
      rw [b18, b20, b22, c18, c20, d20, d22]
      exact ih (p + 1) j (by omega) (by omega) (by omega)

theorem span_concat_s (k : Nat) (hk : 10 ≤ k) (a : List Sp) (hl : a.length ≤ 1000) : f_u86 k [a, []] = some a := by
  obtain ⟨k, rfl⟩ : ∃ m, k = m + 10 := ⟨k - 10, by omega⟩
  have hg : f_u87 (k + 10) (a.length : Int) = some [] := by
    unfold f_u87; rw [if_pos ⟨by omega, by omega⟩]
  have hv : v_u87 (k + 10) (a.length : Int) = [] := by unfold v_u87; rw [hg]; rfl
  have L2 : (([a, []] : List (List Sp)).length : Int) = 2 := rfl
  unfold f_u86
  rw [L2]
  rw [f_u86_3, L2, decide_eq_true (by omega), cond_true, if_pos (show (0 : Int) ≤ 0 ∧ (0 : Int) < 2 from ⟨by omega, by omega⟩)]
  show (bif decide (IntKind.i64.wrap (0 + (a.length : Int)) < 0) then none else f_u86_3 (k + 10) (k + 9) [a, []] (IntKind.i64.wrap (0 + (a.length : Int))) [a, []] 2 (IntKind.i64.wrap (0 + 1))) = _
  rw [wrap_id (i := 0 + (a.length : Int)) (by omega) (by omega), Int.zero_add, decide_eq_false (by omega), cond_false, show IntKind.i64.wrap (0 + 1) = 1 from wrapS 0 (by omega)]
  rw [f_u86_3, L2, decide_eq_true (by omega), cond_true, if_pos (show (0 : Int) ≤ 1 ∧ (1 : Int) < 2 from ⟨by omega, by omega⟩)]
  show (bif decide (IntKind.i64.wrap ((a.length : Int) + (0 : Int)) < 0) then none else f_u86_3 (k + 10) (k + 8) [a, []] (IntKind.i64.wrap ((a.length : Int) + (0 : Int))) [a, []] 2 (IntKind.i64.wrap (1 + 1))) = _
  rw [wrap_id (i := (a.length : Int) + (0 : Int)) (by omega) (by omega), Int.add_zero, decide_eq_false (by omega), cond_false, show IntKind.i64.wrap (1 + 1) = 2 from wrapS 1 (by omega)]
  rw [f_u86_3, decide_eq_false (by omega), cond_false, hg, hv, Option.isSome_some, if_pos rfl]
  rw [L2, f_u86_11, L2, decide_eq_true (by omega), cond_true, if_pos (show (0 : Int) ≤ 0 ∧ (0 : Int) < 2 from ⟨by omega, by omega⟩)]
  show (if (([] : List Sp).length + a.length) * 16 ≤ 140737488355328 then f_u86_11 (k + 10) (k + 6) [a, []] 2 (IntKind.i64.wrap (0 + 1)) ([] ++ a) else none) = _
  rw [if_pos (show (([] : List Sp).length + a.length) * 16 ≤ 140737488355328 by rw [List.length_nil]; omega), show IntKind.i64.wrap (0 + 1) = 1 from wrapS 0 (by omega)]
  rw [f_u86_11, L2, decide_eq_true (by omega), cond_true, if_pos (show (0 : Int) ≤ 1 ∧ (1 : Int) < 2 from ⟨by omega, by omega⟩)]
  show (if (([] ++ a : List Sp).length + ([] : List Sp).length) * 16 ≤ 140737488355328 then f_u86_11 (k + 10) (k + 5) [a, []] 2 (IntKind.i64.wrap (1 + 1)) ([] ++ a ++ []) else none) = _
  rw [if_pos (show (([] ++ a : List Sp).length + ([] : List Sp).length) * 16 ≤ 140737488355328 by rw [List.length_nil, List.nil_append]; omega), show IntKind.i64.wrap (1 + 1) = 2 from wrapS 1 (by omega)]
  rw [f_u86_11, decide_eq_false (by omega), cond_false]
  show some ([] ++ a ++ []) = some a
  simp

theorem span_sets10_l (k : Nat) (hk : 300 ≤ k) (a : List Sp) (h : In 0 17179869184 a) (hn : Nr (-1) a) (hl : a.length ≤ 256) : ∀ (j i : Nat), i ≤ a.length → (a.length - i) + (7 * a.length + 3) ≤ j →
    f_u96_10 k j a [] (a.length : Int) (i : Int) (ends2 (a.take i)) a = some (a, 0) := by
  intro j
  induction j with
  | zero => intros; omega
  | succ j ih =>
    intro i hi hj
    rw [f_u96_10]
    by_cases h' : i < a.length
    · rw [decide_eq_true (by omega : (i : Int) < (a.length : Int)), cond_true, if_pos ⟨by omega, by omega⟩, Int.toNat_natCast, if_pos (by rw [ends2_len, List.length_take]; show (2 * min i a.length + 2) * 8 ≤ _; omega), wrapS i (by omega)]
      have := ih (i + 1) (by omega) (by omega)
      rw [take_snoc a i (0, 0) h', ends2_append] at this
      exact this
    · have hs : f_u89 k (ends2 a) = some (ends2 a) := by
        unfold f_u89
        rw [if_pos (by rw [ends2_len]; omega), srtI_eq, List.mergeSort_of_pairwise]
        exact (ends2_sorted hn).1.imp fun h => decide_eq_true h
      have hv : v_u89 k (ends2 a) = ends2 a := by unfold v_u89; rw [hs]; rfl
      rw [decide_eq_false (by omega : ¬ (i : Int) < (a.length : Int)), cond_false, List.take_of_length_le (by omega), hs, hv, Option.isSome_some, if_pos rfl]
      exact span_sets18_l k hk a h hn hl a.length 0 j (by omega) (by omega) (by omega)

theorem span_Norm_s (k : Nat) (hk : 2100 ≤ k) (l : List Sp) : f_u91 k l = some (normS l) := by
  have e : f_u96 k l [] = some (normS l) := by
    unfold f_u96 normS
    rw [span_Check_s k (by omega), span_Check_v k (by omega), span_Check_s k (by omega), span_Check_v k (by omega), Option.isSome_some, if_pos rfl]
    by_cases h1 : chkS l = 0
    · obtain ⟨l1, l2⟩ := chkS_zero.1 h1
      have hnl := nf_len l2
      have h0 : In 0 17179869184 ([] : List Sp) := trivial
      rw [show (chkS l != 0) = false by simp [h1], cond_false, if_neg (fun h : chkS l ≠ 0 => h h1), Option.isSome_some, if_pos rfl, show (chkS [] != 0) = false from rfl, cond_false]
      rw [span_joined_s k l l2 (by omega) (by omega), span_joined_v k l l2 (by omega) (by omega), span_joined_s k [] h0 (by simp) (by simp; omega), span_joined_v k [] h0 (by simp) (by simp; omega), nf_self h0 trivial, if_pos ⟨rfl, rfl⟩]
      have hc := span_concat_s k (by omega) (nf l) (by omega)
      have hv : v_u86 k [nf l, []] = nf l := by unfold v_u86; rw [hc]; rfl
      rw [hc, hv, Option.isSome_some, if_pos rfl]
      exact span_sets10_l k (by omega) (nf l) (nf_in l2) (nf_nr l2) (by omega) k 0 (by omega) (by omega)
    · rw [show (chkS l != 0) = true by simp [h1], cond_true, if_pos h1]
  have ev : v_u96 k l [] = normS l := by unfold v_u96; rw [e]; rfl
  unfold f_u91
  rw [e, ev]; rfl
theorem span_Norm_v (k : Nat) (hk : 2100 ≤ k) (l : List Sp) : v_u91 k l = normS l := by
  unfold v_u91; rw [span_Norm_s k hk]; rfl

theorem span_Total_l (k : Nat) (a : List Sp) (h : In 0 17179869184 a) (hl : a.length ≤ 256) : ∀ (j i : Nat) (n : Int), i ≤ a.length → a.length - i < j → 0 ≤ n → n ≤ (i : Int) * 17179869184 →
    f_u93_6 k j n a (a.length : Int) (i : Int) = some (n + tot (a.drop i), 0) := by
  intro j
  induction j with
  | zero => intros; omega
  | succ j ih =>
    intro i n hi hj h0 h1
    rw [f_u93_6]
    by_cases h' : i < a.length
    · have hm := h.mem (a.getD i T21.dflt) (by simp [h'])
      rw [decide_eq_true (by omega : (i : Int) < (a.length : Int)), cond_true, if_pos ⟨by omega, by omega⟩, drop_cons' a i T21.dflt h', Int.toNat_natCast]
      generalize a.getD i T21.dflt = s at hm
      rw [wrap_id (i := s.snd - s.fst) (by omega) (by omega), wrap_id (i := n + (s.snd - s.fst)) (by omega) (by omega), wrapS i (by omega), ih (i + 1) _ (by omega) (by omega) (by omega) (by omega), tot, Int.add_assoc]
    · rw [decide_eq_false (by omega : ¬ (i : Int) < (a.length : Int)), cond_false, drop_all a i (by omega)]
      simp [tot]
theorem span_Total_s (k : Nat) (hk : 300 ≤ k) (l : List Sp) : f_u93 k l = some (totalS l) := by
  unfold f_u93 totalS
  rw [span_Check_s k (by omega), span_Check_v k (by omega), Option.isSome_some, if_pos rfl]
  by_cases h1 : chkS l = 0
  · obtain ⟨l1, l2⟩ := chkS_zero.1 h1
    have hnl := nf_len l2
    rw [show (chkS l != 0) = false by simp [h1], cond_false, if_neg (fun h : chkS l ≠ 0 => h h1), span_joined_s k l l2 (by omega) (by omega), span_joined_v k l l2 (by omega) (by omega), Option.isSome_some, if_pos rfl]
    have := span_Total_l k (nf l) (nf_in l2) (by omega) k 0 0 (by omega) (by omega) (by omega) (by omega)
    rw [Int.zero_add] at this
    exact this
  · rw [show (chkS l != 0) = true by simp [h1], cond_true, if_pos h1]
theorem span_Total_v (k : Nat) (hk : 300 ≤ k) (l : List Sp) : v_u93 k l = totalS l := by
  unfold v_u93; rw [span_Total_s k hk]; rfl
end Go.AM
