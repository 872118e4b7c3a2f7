/- Contracts of the functions that the law reaches, and the plain law. -/
import Derived.Test.YtpcifklfjeiklaaGreatLibb
import Derived.Test.YtpcifklfjeiklaaGreatProg
import Derived.Laws.RangeAny
import Derived.Lib.IndexAny
import Derived.Shelf.Strings.IndexAnyAll
import Derived.Shelf.Small.Utf8
import Derived.Shelf.SlicesE.Clone
import Derived.Shelf.SlSortCmp.WholeK
import Derived.Shelf.SlSortCmp.NoneTotal
import Derived.Shelf.Sort.Plain
import Derived.Shelf.Slices.In.SortNone
import Derived.Shelf.Spec.SlicesGrow
import Derived.Shelf.SlGeneric
import Derived.Shelf.Small.Bits
import Derived.Ground.NamesProg
import Derived.Ground.Names2Prog
import Derived.Ground.Names8Prog
import Derived.Ground.SlgnProg
import Derived.Ground.SlsfProg
set_option linter.unusedVariables false
set_option linter.unusedSimpArgs false
set_option linter.unusedSectionVars false
namespace Go.AM
open Go

theorem take_snoc {α : Type} (l : List α) (i : Nat) (d : α) (h : i < l.length) : l.take (i + 1) = l.take i ++ [l.getD i d] := by
  rw [List.take_add_one]; simp [h]

/-! ### sets of integers as lists of spans -/
abbrev Sp := Int × Int

/-- x is in one of the spans -/
def has : List Sp → Int → Prop
  | [], _ => False
  | s :: t, x => (s.1 ≤ x ∧ x < s.2) ∨ has t x

theorem has_iff (l : List Sp) (x : Int) : has l x ↔ ∃ s ∈ l, s.1 ≤ x ∧ x < s.2 := by
  induction l with
  | nil => simp [has]
  | cons s t ih => simp [has, ih]

theorem has_perm {a b : List Sp} (h : a.Perm b) (x : Int) : has a x ↔ has b x := by
  rw [has_iff, has_iff]
  exact ⟨fun ⟨s, hs, h2⟩ => ⟨s, h.mem_iff.1 hs, h2⟩, fun ⟨s, hs, h2⟩ => ⟨s, h.mem_iff.2 hs, h2⟩⟩

/-- spans that have integers, in order, apart, all behind b -/
def Nr : Int → List Sp → Prop
  | _, [] => True
  | b, s :: t => b < s.1 ∧ s.1 < s.2 ∧ Nr s.2 t

theorem Nr.weaken {a b : Int} (h : a ≤ b) : ∀ {l : List Sp}, Nr b l → Nr a l
  | [], _ => trivial
  | _ :: _, ⟨h1, h2, h3⟩ => ⟨by omega, h2, h3⟩

theorem Nr.low : ∀ {b : Int} {l : List Sp}, Nr b l → ∀ x, has l x → b < x
  | _, [], _, x, hx => hx.elim
  | b, s :: t, ⟨h1, h2, h3⟩, x, hx => by
    rcases hx with ⟨h, _⟩ | hx
    · omega
    · have := Nr.low h3 x hx; omega

theorem Nr.uniq : ∀ {b : Int} {l m : List Sp}, Nr b l → Nr b m → (∀ x, has l x ↔ has m x) → l = m
  | _, [], [], _, _, _ => rfl
  | b, [], s :: t, _, ⟨h1, h2, _⟩, h => ((h s.1).2 (.inl ⟨by omega, h2⟩)).elim
  | b, s :: t, [], ⟨h1, h2, _⟩, _, h => ((h s.1).1 (.inl ⟨by omega, h2⟩)).elim
  | b, s :: t, u :: v, ⟨h1, h2, h3⟩, ⟨k1, k2, k3⟩, h => by
    have e1 : s.1 = u.1 := by
      have a1 := (h s.1).1 (.inl ⟨by omega, h2⟩)
      have a2 := (h u.1).2 (.inl ⟨by omega, k2⟩)
      rcases a1 with a1 | a1
      · rcases a2 with a2 | a2
        · omega
        · have := Nr.low h3 _ a2; omega
      · have := Nr.low k3 _ a1
        rcases a2 with a2 | a2
        · omega
        · have := Nr.low h3 _ a2; omega
    have e2 : s.2 = u.2 := by
      rcases Int.lt_trichotomy s.2 u.2 with hlt | heq | hgt
      · have a1 := (h s.2).2 (.inl ⟨by omega, hlt⟩)
        rcases a1 with a1 | a1
        · omega
        · have := Nr.low h3 _ a1; omega
      · exact heq
      · have a1 := (h u.2).1 (.inl ⟨by omega, hgt⟩)
        rcases a1 with a1 | a1
        · omega
        · have := Nr.low k3 _ a1; omega
    have e3 : s = u := Prod.ext e1 e2
    subst e3
    congr 1
    refine Nr.uniq h3 k3 fun x => ?_
    constructor
    · intro hx
      have := Nr.low h3 _ hx
      rcases (h x).1 (.inr hx) with a | a
      · omega
      · exact a
    · intro hx
      have := Nr.low k3 _ hx
      rcases (h x).2 (.inr hx) with a | a
      · omega
      · exact a

/-- the total of a list of spans -/
def tot : List Sp → Int
  | [] => 0
  | s :: t => (s.2 - s.1) + tot t

/-- joining spans that come in order of their beginnings -/
def jn : Sp → List Sp → List Sp
  | c, [] => [c]
  | c, s :: t => if s.1 ≥ s.2 then jn c t else if s.1 ≤ c.2 then jn (c.1, if s.2 > c.2 then s.2 else c.2) t else c :: jn s t
def jn0 : List Sp → List Sp
  | [] => []
  | s :: t => if s.1 ≥ s.2 then jn0 t else jn s t

def Asc : Int → List Sp → Prop
  | _, [] => True
  | b, s :: t => b ≤ s.1 ∧ Asc s.1 t
theorem Asc.weaken {a b : Int} (h : a ≤ b) : ∀ {l : List Sp}, Asc b l → Asc a l
  | [], _ => trivial
  | _ :: _, ⟨h1, h3⟩ => ⟨by omega, h3⟩

theorem jn_nr : ∀ (l : List Sp) (c : Sp) (b : Int), b < c.1 → c.1 < c.2 → Asc c.1 l → Nr b (jn c l)
  | [], c, b, h1, h2, _ => ⟨h1, h2, trivial⟩
  | s :: t, c, b, h1, h2, ⟨h3, h4⟩ => by
    unfold jn
    by_cases q : s.1 ≥ s.2
    · rw [if_pos q]; exact jn_nr t c b h1 h2 (h4.weaken h3)
    · rw [if_neg q]
      by_cases q2 : s.1 ≤ c.2
      · rw [if_pos q2]
        refine jn_nr t _ b h1 ?_ (h4.weaken h3)
        show c.1 < if s.2 > c.2 then s.2 else c.2
        split <;> omega
      · rw [if_neg q2]
        exact ⟨h1, h2, jn_nr t s c.2 (by omega) (by omega) h4⟩
theorem jn_has : ∀ (l : List Sp) (c : Sp) (x : Int), c.1 < c.2 → Asc c.1 l → (has (jn c l) x ↔ (c.1 ≤ x ∧ x < c.2) ∨ has l x)
  | [], c, x, _, _ => by simp [jn, has]
  | s :: t, c, x, h2, ⟨h3, h4⟩ => by
    unfold jn
    by_cases q : s.1 ≥ s.2
    · rw [if_pos q, jn_has t c x h2 (h4.weaken h3)]
      simp only [has]
      constructor
      · rintro (h | h)
        · exact .inl h
        · exact .inr (.inr h)
      · rintro (h | h | h)
        · exact .inl h
        · omega
        · exact .inr h
    · rw [if_neg q]
      by_cases q2 : s.1 ≤ c.2
      · rw [if_pos q2, jn_has t (c.1, if s.2 > c.2 then s.2 else c.2) x (by show c.1 < if s.2 > c.2 then s.2 else c.2; split <;> omega) (h4.weaken h3)]
        simp only [has]
        constructor
        · rintro (h | h)
          · by_cases q3 : x < c.2
            · exact .inl ⟨h.1, q3⟩
            · refine .inr (.inl ⟨by omega, ?_⟩)
              have := h.2
              split at this <;> omega
          · exact .inr (.inr h)
        · rintro (h | h | h)
          · exact .inl ⟨h.1, by split <;> omega⟩
          · exact .inl ⟨by omega, by split <;> omega⟩
          · exact .inr h
      · rw [if_neg q2]
        simp only [has, jn_has t s x (by omega) h4]
theorem jn0_nr : ∀ (l : List Sp) (b : Int), Asc (b + 1) l → Nr b (jn0 l)
  | [], b, _ => trivial
  | s :: t, b, ⟨h3, h4⟩ => by
    unfold jn0
    by_cases q : s.1 ≥ s.2
    · rw [if_pos q]; exact jn0_nr t b (h4.weaken h3)
    · rw [if_neg q]; exact jn_nr t s b (by omega) (by omega) h4
theorem jn0_has : ∀ (l : List Sp) (b x : Int), Asc b l → (has (jn0 l) x ↔ has l x)
  | [], b, x, _ => Iff.rfl
  | s :: t, b, x, ⟨h3, h4⟩ => by
    unfold jn0
    by_cases q : s.1 ≥ s.2
    · rw [if_pos q, jn0_has t _ x h4]
      simp only [has]
      exact ⟨.inr, fun h => h.elim (fun h => by omega) id⟩
    · rw [if_neg q, jn_has t s x (by omega) h4]; rfl

theorem jn_len : ∀ (l : List Sp) (c : Sp), (jn c l).length ≤ l.length + 1
  | [], c => by simp [jn]
  | s :: t, c => by
    unfold jn
    split
    · have := jn_len t c; simp; omega
    · split
      · have := jn_len t (c.1, if s.2 > c.2 then s.2 else c.2); simp at this ⊢; omega
      · have := jn_len t s; simp; omega
theorem jn0_len : ∀ (l : List Sp), (jn0 l).length ≤ l.length
  | [] => Nat.le_refl _
  | s :: t => by
    unfold jn0
    split
    · have := jn0_len t; simp; omega
    · have := jn_len t s; simpa using this

/-- spans within bounds -/
def In (a b : Int) : List Sp → Prop
  | [] => True
  | s :: t => (a ≤ s.1 ∧ s.1 ≤ s.2 ∧ s.2 ≤ b) ∧ In a b t
theorem In.mem {a b : Int} : ∀ {l : List Sp}, In a b l → ∀ s ∈ l, a ≤ s.1 ∧ s.1 ≤ s.2 ∧ s.2 ≤ b
  | [], _, s, hs => by simp at hs
  | u :: t, ⟨h1, h2⟩, s, hs => by
    rcases List.mem_cons.1 hs with rfl | hs
    · exact h1
    · exact In.mem h2 s hs
theorem In.of {a b : Int} : ∀ {l : List Sp}, (∀ s ∈ l, a ≤ s.1 ∧ s.1 ≤ s.2 ∧ s.2 ≤ b) → In a b l
  | [], _ => trivial
  | u :: t, h => ⟨h u (by simp), In.of fun s hs => h s (by simp [hs])⟩
theorem jn_in {a b : Int} : ∀ (l : List Sp) (c : Sp), In a b l → (a ≤ c.1 ∧ c.1 ≤ c.2 ∧ c.2 ≤ b) → In a b (jn c l)
  | [], c, _, hc => ⟨hc, trivial⟩
  | s :: t, c, ⟨h1, h2⟩, hc => by
    unfold jn
    split
    · exact jn_in t c h2 hc
    · split
      · refine jn_in t _ h2 ⟨hc.1, ?_, ?_⟩
        · show c.1 ≤ if s.2 > c.2 then s.2 else c.2
          split <;> omega
        · show (if s.2 > c.2 then s.2 else c.2) ≤ b
          split <;> omega
      · exact ⟨hc, jn_in t s h2 h1⟩
theorem jn0_in {a b : Int} : ∀ (l : List Sp), In a b l → In a b (jn0 l)
  | [], h => h
  | s :: t, ⟨h1, h2⟩ => by
    unfold jn0
    split
    · exact jn0_in t h2
    · exact jn_in t s h2 h1
end Go.AM
namespace Go.AM
open Go

/-! ### maps of integers as lists of runs -/
abbrev Rn := Int × Int × Bool   -- At, Len, Back

def good (r : Rn) : Prop := 1 ≤ r.2.1 ∧ r.2.1 ≤ 17179869184 ∧ 0 ≤ r.1 ∧ r.1 < 17179869184 ∧ (r.2.2 = true → 0 ≤ r.1 - r.2.1 + 1) ∧ (r.2.2 = false → r.1 + r.2.1 ≤ 17179869184)
instance (r : Rn) : Decidable (good r) := by unfold good; infer_instance

def lenS : List Rn → Int
  | [] => 0
  | r :: t => r.2.1 + lenS t

def goods : List Rn → Prop
  | [] => True
  | r :: t => good r ∧ goods t
instance : (l : List Rn) → Decidable (goods l)
  | [] => .isTrue trivial
  | r :: t => @instDecidableAnd _ _ _ (instDecidableGoods t)

/-- the error of a map -/
def chk (m : List Rn) : Int := if m.length > 256 then 8 else if goods m then (if lenS m > 17179869184 then 21 else 0) else 1

theorem lenS_append (a b : List Rn) : lenS (a ++ b) = lenS a + lenS b := by
  induction a with
  | nil => simp [lenS]
  | cons r t ih => simp only [List.cons_append, lenS, ih]; omega
theorem goods_append (a b : List Rn) : goods (a ++ b) ↔ goods a ∧ goods b := by
  induction a with
  | nil => simp [goods]
  | cons r t ih => simp only [List.cons_append, goods, ih]; exact and_assoc.symm
theorem goods.mem : ∀ {l : List Rn}, goods l → ∀ r ∈ l, good r
  | [], _, r, h => by simp at h
  | u :: t, ⟨h1, h2⟩, r, hr => by
    rcases List.mem_cons.1 hr with rfl | hr
    · exact h1
    · exact goods.mem h2 r hr
theorem goods.of : ∀ {l : List Rn}, (∀ r ∈ l, good r) → goods l
  | [], _ => trivial
  | u :: t, h => ⟨h u (by simp), goods.of fun r hr => h r (by simp [hr])⟩
theorem lenS_nonneg : ∀ {l : List Rn}, goods l → (l.length : Int) ≤ lenS l
  | [], _ => by simp [lenS]
  | r :: t, ⟨h1, h2⟩ => by
    have := lenS_nonneg h2
    have := h1.1
    simp only [lenS, List.length_cons]; omega
structure Chk (m : List Rn) : Prop where
  len : m.length ≤ 256
  goods : goods m
  tot : lenS m ≤ 17179869184
theorem chk_zero {m : List Rn} : chk m = 0 ↔ Chk m := by
  unfold chk
  constructor
  · intro h
    by_cases h1 : m.length > 256
    · rw [if_pos h1] at h; omega
    · rw [if_neg h1] at h
      by_cases h2 : goods m
      · rw [if_pos h2] at h
        by_cases h3 : lenS m > 17179869184
        · rw [if_pos h3] at h; omega
        · exact ⟨by omega, h2, by omega⟩
      · rw [if_neg h2] at h; omega
  · rintro ⟨h1, h2, h3⟩
    rw [if_neg (by omega), if_pos h2, if_neg (by omega)]

/-- the image of an integer of a run -/
def img (r : Rn) (x : Int) : Int := if r.2.2 = true then r.1 - x else r.1 + x

/-- the image of an integer of a map -/
def imgAt : List Rn → Int → Int
  | [], _ => 0
  | r :: t, x => if x < r.2.1 then img r x else imgAt t (x - r.2.1)

def lo (r : Rn) : Int := if r.2.2 = true then r.1 - r.2.1 + 1 else r.1
def hi (r : Rn) : Int := if r.2.2 = true then r.1 else r.1 + r.2.1 - 1
/-- the span of the images of a run -/
def spn (r : Rn) : Sp := (lo r, hi r + 1)

theorem good.lohi {r : Rn} (h : good r) : 0 ≤ lo r ∧ lo r ≤ hi r ∧ hi r < 17179869184 ∧ hi r - lo r + 1 = r.2.1 := by
  obtain ⟨h1, h2, h3, h4, h5, h6⟩ := h
  unfold lo hi
  cases hb : r.2.2
  · have := h6 hb; simp only [Bool.false_eq_true, if_false]; omega
  · have := h5 hb; simp only [if_true]; omega
theorem img_mem {r : Rn} {x : Int} (h0 : 0 ≤ x) (h1 : x < r.2.1) : lo r ≤ img r x ∧ img r x ≤ hi r := by
  unfold lo hi img
  cases r.2.2 <;> simp only [Bool.false_eq_true, if_false, if_true] <;> omega

/-- n integers of a run, from the integer x on -/
def prt (r : Rn) (x n : Int) : Rn := (img r x, n, r.2.2 && decide (n > 1))

def stp (c r : Rn) : Int := r.1 - img c (c.2.1 - 1)
/-- does a run begin anew behind another one? -/
def apart (c r : Rn) : Bool := (stp c r != 1 && stp c r != -1) || (decide (c.2.1 > 1) && !((stp c r == -1) == c.2.2))
/-- a normal form with a further run -/
def addS (b : List Rn) (r : Rn) : List Rn :=
  if r.2.1 < 1 then b else match b.getLast? with
    | none => b ++ [prt r 0 r.2.1]
    | some c => bif apart c r then b ++ [prt r 0 r.2.1]
      else bif decide (r.2.1 > 1) && !(r.2.2 == (stp c r == -1)) then b.dropLast ++ [(c.1, c.2.1 + 1, stp c r == -1), prt r 1 (r.2.1 - 1)]
      else b.dropLast ++ [(c.1, c.2.1 + r.2.1, stp c r == -1)]

def adds (b : List Rn) (l : List Rn) : List Rn := l.foldl addS b

/-- the pieces of a part of a map -/
def pieces : List Rn → Int → Int → List Rn
  | [], _, _ => []
  | r :: t, a, b =>
    (if max a 0 < min b r.2.1 then [prt r (max a 0) (min b r.2.1 - max a 0)] else []) ++ pieces t (a - r.2.1) (b - r.2.1)

/-- a piece from its end -/
def rvs1 (p : Rn) : Rn := (img p (p.2.1 - 1), p.2.1, !p.2.2 && decide (p.2.1 > 1))

/-- the pieces of outer that an inner run comes to, in its order -/
def steps (outer : List Rn) (r : Rn) : List Rn :=
  if r.2.2 = true then ((pieces outer (r.1 - r.2.1 + 1) (r.1 + 1)).reverse).map rvs1 else pieces outer r.1 (r.1 + r.2.1)

/-- does a map come out of another one? -/
def fitsIn (n : Int) : List Rn → Prop
  | [] => True
  | r :: t => hi r < n ∧ fitsIn n t
instance (n : Int) : (l : List Rn) → Decidable (fitsIn n l)
  | [] => .isTrue trivial
  | r :: t => @instDecidableAnd _ _ _ (instDecidableFitsIn n t)

/-- the composition, in normal form, without its limit -/
def compS (inner outer : List Rn) : List Rn := inner.foldl (fun b r => adds b (steps outer r)) []

/-- the composition or its error -/
def comp (inner outer : List Rn) : List Rn × Int :=
  if chk inner ≠ 0 then ([], chk inner) else if chk outer ≠ 0 then ([], chk outer) else if ¬ fitsIn (lenS outer) inner then ([], 21)
  else if (compS inner outer).length > 256 then ([], 8) else (compS inner outer, 0)
end Go.AM
namespace Go.AM
open Go Go.Proofs
noncomputable section
abbrev I : RTy := .int .i64
abbrev t7 : RTy := (RTy.pair I (RTy.pair I (RTy.pair RTy.bool (RTy.int .u8))))
abbrev t8 : RTy := (RTy.pair I (RTy.pair I (RTy.pair RTy.bool (RTy.int .u8))))
abbrev t13 : RTy := (RTy.pair RTy.str (RTy.int .u64))
abbrev t14 : RTy := (RTy.pair RTy.str (RTy.int .u64))
abbrev T0 : RTy := (RTy.pair I (RTy.pair I RTy.bool))
abbrev T1 : RTy := (RTy.pair I (RTy.pair I (RTy.pair RTy.bool (RTy.list T0))))
abbrev T2 : RTy := (RTy.pair I (RTy.pair I T1))
abbrev T3 : RTy := (RTy.pair I (RTy.pair I (RTy.pair I (RTy.pair I I))))
abbrev T4 : RTy := (RTy.pair I (RTy.pair I (RTy.pair I I)))
abbrev T5 : RTy := (RTy.pair T4 (RTy.pair I I))
abbrev T6 : RTy := (RTy.pair RTy.str (RTy.pair I (RTy.pair I (RTy.pair I (RTy.pair I (RTy.pair I (RTy.pair (RTy.list I) I)))))))
abbrev t26 : RTy := (RTy.pair (RTy.list T2) (RTy.pair I (RTy.pair I (RTy.pair (RTy.list T3) (RTy.pair (RTy.list T5) (RTy.pair (RTy.list T6) I))))))
abbrev T7 : RTy := (RTy.pair (RTy.list T2) (RTy.pair I (RTy.pair I (RTy.pair (RTy.list T3) (RTy.pair (RTy.list T5) (RTy.pair (RTy.list T6) I))))))
abbrev t30 : RTy := (RTy.pair I (RTy.pair RTy.bool (RTy.pair I (RTy.pair I (RTy.pair I I)))))
abbrev T8 : RTy := (RTy.pair I (RTy.pair RTy.bool (RTy.pair I (RTy.pair I (RTy.pair I I)))))
abbrev t35 : RTy := (RTy.pair I I)
abbrev T9 : RTy := (RTy.pair I I)
abbrev t37 : RTy := (RTy.pair (RTy.list T2) (RTy.pair T9 (RTy.pair (RTy.list T3) (RTy.pair (RTy.list T5) (RTy.pair (RTy.list T6) I)))))
abbrev T10 : RTy := (RTy.pair (RTy.list T2) (RTy.pair T9 (RTy.pair (RTy.list T3) (RTy.pair (RTy.list T5) (RTy.pair (RTy.list T6) I)))))
abbrev T11 : RTy := (RTy.pair I I)
abbrev t42 : RTy := (RTy.pair (RTy.list T2) (RTy.pair T11 (RTy.pair (RTy.list T3) (RTy.pair (RTy.list T5) (RTy.pair (RTy.list T6) I)))))
abbrev T12 : RTy := (RTy.pair (RTy.list T2) (RTy.pair T11 (RTy.pair (RTy.list T3) (RTy.pair (RTy.list T5) (RTy.pair (RTy.list T6) I)))))
abbrev t49 : RTy := (RTy.pair I (RTy.pair I (RTy.pair RTy.bool (RTy.list T0))))
abbrev t51 : RTy := (RTy.pair I (RTy.pair I T1))
abbrev t53 : RTy := (RTy.pair I (RTy.pair I RTy.bool))
abbrev t58 : RTy := (RTy.pair I (RTy.pair I (RTy.pair I (RTy.pair I (RTy.pair I (RTy.pair I (RTy.pair I (RTy.pair I (RTy.pair I (RTy.pair I (RTy.pair I I)))))))))))
abbrev T13 : RTy := (RTy.pair I (RTy.pair I (RTy.pair I (RTy.pair I (RTy.pair I (RTy.pair I (RTy.pair I (RTy.pair I (RTy.pair I (RTy.pair I (RTy.pair I I)))))))))))
abbrev t61 : RTy := (RTy.pair I (RTy.pair I I))
abbrev T14 : RTy := (RTy.pair I (RTy.pair I I))
abbrev T15 : RTy := (RTy.pair I I)
abbrev t77 : RTy := (RTy.pair RTy.str (RTy.pair I (RTy.pair I (RTy.pair I (RTy.pair I (RTy.pair I (RTy.pair (RTy.list I) I)))))))
abbrev t81 : RTy := (RTy.pair I (RTy.pair I (RTy.pair I (RTy.pair I I))))
abbrev t85 : RTy := (RTy.pair I I)
abbrev t95 : RTy := (RTy.pair T8 T13)
abbrev T16 : RTy := (RTy.pair T8 T13)
abbrev t113 : RTy := (RTy.pair I (RTy.pair I (RTy.pair I I)))
abbrev t115 : RTy := (RTy.pair T4 (RTy.pair I I))
abbrev t146 : RTy := (RTy.list T0)
abbrev T17 : RTy := (RTy.list T0)
abbrev t206 : RTy := RTy.unit
abbrev t207 : RTy := RTy.unit
instance : GT Tryz.prog := ⟨fun _ => True, fun _ _ _ h => h⟩
def Rt : Tab := lookT [(1, RTy.fn), (2, I), (3, I), (4, RTy.bool), (5, (RTy.int .u8)), (6, (RTy.int .u8)), (7, t7), (8, t8), (9, RTy.str), (10, RTy.str), (11, RTy.str), (12, (RTy.int .u64)), (13, t13), (14, t14), (21, (RTy.int .i32)), (22, (RTy.list T2)), (23, (RTy.list T3)), (24, (RTy.list T5)), (25, (RTy.list T6)), (26, t26), (27, T7), (28, RTy.fn), (29, RTy.fn), (30, t30), (31, T8), (32, I), (34, RTy.fn), (35, t35), (36, T9), (37, t37), (38, T10), (39, RTy.fn), (40, RTy.fn), (41, T11), (42, t42), (43, T12), (44, RTy.fn), (45, RTy.fn), (47, RTy.fn), (48, (RTy.list T0)), (49, t49), (50, T1), (51, t51), (52, T2), (53, t53), (54, T0), (55, (RTy.list I)), (57, RTy.fn), (58, t58), (59, T13), (60, RTy.fn), (61, t61), (62, T14), (63, (RTy.list T14)), (64, RTy.fn), (65, RTy.fn), (67, RTy.fn), (68, RTy.fn), (69, (RTy.list T15)), (71, RTy.fn), (73, RTy.fn), (75, RTy.fn), (76, RTy.fn), (77, t77), (78, T6), (79, RTy.fn), (80, RTy.fn), (81, t81), (82, T3), (84, RTy.fn), (85, t85), (86, T15), (87, RTy.fn), (88, RTy.fn), (91, RTy.fn), (93, RTy.fn), (94, RTy.fn), (95, t95), (96, T16), (97, (RTy.list RTy.fn)), (98, RTy.fn), (100, RTy.fn), (101, RTy.fn), (102, RTy.fn), (103, RTy.fn), (104, RTy.fn), (106, RTy.fn), (107, RTy.fn), (108, RTy.fn), (109, RTy.fn), (110, RTy.fn), (112, RTy.fn), (113, t113), (114, T4), (115, t115), (116, T5), (117, RTy.fn), (118, RTy.fn), (120, RTy.fn), (121, RTy.fn), (122, RTy.fn), (123, RTy.fn), (124, RTy.fn), (128, RTy.fn), (129, RTy.fn), (130, (RTy.int .u64)), (131, RTy.fn), (132, RTy.fn), (133, RTy.fn), (134, RTy.fn), (135, RTy.fn), (136, RTy.fn), (137, RTy.fn), (138, RTy.fn), (139, RTy.fn), (140, RTy.fn), (141, RTy.fn), (143, RTy.fn), (144, RTy.fn), (145, RTy.fn), (146, t146), (147, T17), (148, RTy.fn), (149, RTy.fn), (150, RTy.fn), (151, RTy.fn), (152, RTy.fn), (153, RTy.fn), (154, RTy.fn), (155, RTy.fn), (156, RTy.fn), (157, RTy.fn), (158, RTy.fn), (159, RTy.fn), (160, RTy.fn), (161, RTy.fn), (162, RTy.fn), (164, RTy.fn), (165, RTy.fn), (166, (RTy.list (RTy.list T15))), (167, RTy.fn), (168, RTy.fn), (169, RTy.fn), (170, RTy.fn), (171, RTy.fn), (172, RTy.fn), (173, RTy.fn), (174, RTy.fn), (175, I), (177, RTy.fn), (178, RTy.fn), (179, RTy.fn), (180, RTy.fn), (181, RTy.fn), (182, (RTy.int .u32)), (183, RTy.fn), (184, (RTy.int .u64)), (185, RTy.fn), (186, RTy.fn), (187, RTy.fn), (188, RTy.fn), (189, RTy.fn), (190, RTy.fn), (191, (RTy.int .u64)), (192, RTy.fn), (193, RTy.fn), (194, RTy.fn), (196, RTy.fn), (197, RTy.fn), (198, RTy.fn), (200, RTy.fn), (201, RTy.fn), (202, RTy.fn), (205, RTy.unit), (206, t206), (207, t207), (208, RTy.fn), (209, (RTy.int .u8)), (210, (RTy.int .u8)), (211, RTy.fn), (213, (RTy.int .i32)), (214, (RTy.int .i32))]
theorem hm : Tryz.prog.follows .mixedOrders = true := by kernel_rfl
theorem go (K : Calld) (l : List Nat) (C : List (Nat × List Cmd)) (E : List Cmd) {fn : Wy} {m : Nat} {todo : List Item} {st : St} {res : AV} {bout : List (Nat × Blk)} {T : Tree} (h : T.gives Tryz.prog fn m res bout) (e : tree Tryz.prog Rt K fn.rd m l fn.fn.results.toList C E 1000 todo st = T) : Ev Tryz.prog fn m todo st res bout := Ev.tree hm (R := Rt) (K := K) e h
abbrev R_u18 : Type := Int
def res_u18 (r : R_u18) : AV := .r (.v (.int .i64 r))
def bo_u18 (m_ : List (T0).T) (r : R_u18) : List (Nat × Blk) := []
def args_u18 (m_ : List (T0).T) : List AV := [.r (.ro T0 m_)]
def bin_u18 (m_ : List (T0).T) : List Blk := []
abbrev C_u18 (m_ : List (T0).T) (r : R_u18) : Prop := CC Tryz.prog 43 (args_u18 m_) (bin_u18 m_) (res_u18 r) (bo_u18 m_ r)
def st_u18_5 (y0 : Int) (y1 : List (T0).T) (y2 : Int) (y3 : Int) : St := ⟨mkS 64 [(3, .r (.v (.int .i64 y0))), (9, .r (.ro T0 y1)), (10, .r (.v (.int .i64 y2))), (11, .r (.v (.int .i64 y3)))], []⟩
def f_u18_5 (k : Nat) : Nat → Int → List (T0).T → Int → Int → Option R_u18
  | 0, _, _, _, _ => none
  | j + 1, y0, y1, y2, y3 =>
  bif (decide (y3 < y2)) then
  if (0 ≤ y3) ∧ (y3 < (↑y1.length : Int)) then
  bif (decide ((y1.getD y3.toNat T0.dflt).2.1 < (1 : Int)) || decide ((y1.getD y3.toNat T0.dflt).2.1 > (17179869184 : Int)) || decide ((y1.getD y3.toNat T0.dflt).1 < (0 : Int)) || decide ((y1.getD y3.toNat T0.dflt).1 ≥ (17179869184 : Int))) then
  some 1
  else
  bif ((y1.getD y3.toNat T0.dflt).2.2 && decide (IntKind.i64.wrap (IntKind.i64.wrap ((y1.getD y3.toNat T0.dflt).1 - (y1.getD y3.toNat T0.dflt).2.1) + (1 : Int)) < (0 : Int)) || (! (y1.getD y3.toNat T0.dflt).2.2) && decide (IntKind.i64.wrap ((y1.getD y3.toNat T0.dflt).1 + (y1.getD y3.toNat T0.dflt).2.1) > (17179869184 : Int))) then
  some 1
  else
  f_u18_5 k j ((IntKind.i64.wrap (y0 + (y1.getD y3.toNat T0.dflt).2.1))) y1 y2 ((IntKind.i64.wrap (y3 + 1)))
  else none
  else
  bif (decide (y0 > (17179869184 : Int))) then
  some 21
  else
  some 0
def f_u18 (k : Nat) (m_ : List (T0).T) : Option R_u18 :=
  bif (decide ((↑m_.length : Int) > (256 : Int))) then
  some 8
  else
  f_u18_5 k k 0 m_ ((↑m_.length : Int)) 0
def v_u18 (k : Nat) (m_ : List (T0).T) : R_u18 := (f_u18 k m_).getD 0
def ke_u18 (k : Nat) : Ke := (43, fun xs => match xs with
  | [_] => some [false]
  | _ => none, fun xs bs => match xs, bs with
  | [.r (.ro tm__ qm_)], [] => (castL tm__ T0 qm_).bind fun m_ => some (.one (res_u18 (v_u18 k m_), bo_u18 m_ (v_u18 k m_)))
  | _, _ => none)
def cs_u18 : List (Nat × List Cmd) := [(5, [.autoB [3, 9, 10, 11] false []])]
abbrev E_u18 (m_ : List (T0).T) (todo : List Item) (st : St) (o : Option R_u18) : Prop := ∀ r, o = some r → Ev Tryz.prog Tryz.f43 0 todo st (res_u18 r) (bo_u18 m_ r)
theorem ev_u18 (k : Nat) (m_ : List (T0).T) : ∀ j, (∀ (y0 : Int) (y1 : List (T0).T) (y2 : Int) (y3 : Int), E_u18 m_ (placeAt Tryz.f43 5) (st_u18_5 y0 y1 y2 y3) (f_u18_5 k j y0 y1 y2 y3))
  | 0 => fun _ _ _ _ _ h => (nomatch h)
  | j + 1 => by
    have ih := @ev_u18 k m_ j
    · intro y0 y1 y2 y3 r h
      rw [f_u18_5] at h
      exact go (mkK []) [] cs_u18 [.autoB [2] true []] (gT h (fun c h => gN2 h fun h => gT h (fun c h => gL h) fun c h => gT h (fun c h => gL h) fun c h => gC h 5 (ih _ _ _ _ _)) fun c h => gT h (fun c h => gL h) fun c h => gL h) (by kernel_rfl)
theorem of_u18 (k : Nat) (m_ : List (T0).T) (r : R_u18) (h : f_u18 k m_ = some r) : C_u18 m_ r := by
  refine CC.of (fn := Tryz.f43) (by kernel_rfl) (by kernel_rfl) (by kernel_rfl) (by kernel_rfl) ?_
  unfold f_u18 at h
  exact go (mkK []) [] cs_u18 [.autoB [2] true []] (gT h (fun c h => gL h) fun c h => gC h 5 ((ev_u18 k m_ k) _ _ _ _ _)) (by kernel_rfl)
theorem cc_u18 {k : Nat} {m_ : List (T0).T} (h : (f_u18 k m_).isSome = true) : C_u18 m_ (v_u18 k m_) := ccG (Φ := C_u18 m_) h (of_u18 k m_)
abbrev R_u31 : Type := Int
def res_u31 (r : R_u31) : AV := .r (.v (.int .i64 r))
def bo_u31 (m_ : List (T0).T) (r : R_u31) : List (Nat × Blk) := []
def args_u31 (m_ : List (T0).T) : List AV := [.r (.ro T0 m_)]
def bin_u31 (m_ : List (T0).T) : List Blk := []
abbrev C_u31 (m_ : List (T0).T) (r : R_u31) : Prop := CC Tryz.prog 47 (args_u31 m_) (bin_u31 m_) (res_u31 r) (bo_u31 m_ r)
def st_u31_3 (y0 : Int) (y1 : List (T0).T) (y2 : Int) (y3 : Int) : St := ⟨mkS 18 [(3, .r (.v (.int .i64 y0))), (6, .r (.ro T0 y1)), (7, .r (.v (.int .i64 y2))), (8, .r (.v (.int .i64 y3)))], []⟩
def f_u31_3 (k : Nat) : Nat → Int → List (T0).T → Int → Int → Option R_u31
  | 0, _, _, _, _ => none
  | j + 1, y0, y1, y2, y3 =>
  bif (decide (y3 < y2)) then
  if (0 ≤ y3) ∧ (y3 < (↑y1.length : Int)) then
  f_u31_3 k j ((IntKind.i64.wrap (y0 + (y1.getD y3.toNat T0.dflt).2.1))) y1 y2 ((IntKind.i64.wrap (y3 + 1)))
  else none
  else
  some y0
def f_u31 (k : Nat) (m_ : List (T0).T) : Option R_u31 :=
  f_u31_3 k k 0 m_ ((↑m_.length : Int)) 0
def v_u31 (k : Nat) (m_ : List (T0).T) : R_u31 := (f_u31 k m_).getD 0
def ke_u31 (k : Nat) : Ke := (47, fun xs => match xs with
  | [_] => some [false]
  | _ => none, fun xs bs => match xs, bs with
  | [.r (.ro tm__ qm_)], [] => (castL tm__ T0 qm_).bind fun m_ => some (.one (res_u31 (v_u31 k m_), bo_u31 m_ (v_u31 k m_)))
  | _, _ => none)
def cs_u31 : List (Nat × List Cmd) := [(3, [.autoB [3, 6, 7, 8] false []])]
abbrev E_u31 (m_ : List (T0).T) (todo : List Item) (st : St) (o : Option R_u31) : Prop := ∀ r, o = some r → Ev Tryz.prog Tryz.f47 0 todo st (res_u31 r) (bo_u31 m_ r)
theorem ev_u31 (k : Nat) (m_ : List (T0).T) : ∀ j, (∀ (y0 : Int) (y1 : List (T0).T) (y2 : Int) (y3 : Int), E_u31 m_ (placeAt Tryz.f47 3) (st_u31_3 y0 y1 y2 y3) (f_u31_3 k j y0 y1 y2 y3))
  | 0 => fun _ _ _ _ _ h => (nomatch h)
  | j + 1 => by
    have ih := @ev_u31 k m_ j
    · intro y0 y1 y2 y3 r h
      rw [f_u31_3] at h
      exact go (mkK []) [] cs_u31 [.autoB [2] true []] (gT h (fun c h => gN2 h fun h => gC h 3 (ih _ _ _ _ _)) fun c h => gL h) (by kernel_rfl)
theorem of_u31 (k : Nat) (m_ : List (T0).T) (r : R_u31) (h : f_u31 k m_ = some r) : C_u31 m_ r := by
  refine CC.of (fn := Tryz.f47) (by kernel_rfl) (by kernel_rfl) (by kernel_rfl) (by kernel_rfl) ?_
  unfold f_u31 at h
  exact go (mkK []) [] cs_u31 [.autoB [2] true []] (gC h 3 ((ev_u31 k m_ k) _ _ _ _ _)) (by kernel_rfl)
theorem cc_u31 {k : Nat} {m_ : List (T0).T} (h : (f_u31 k m_).isSome = true) : C_u31 m_ (v_u31 k m_) := ccG (Φ := C_u31 m_) h (of_u31 k m_)
abbrev R_u29 : Type := Int
def res_u29 (r : R_u29) : AV := .r (.v (.int .i64 r))
def bo_u29 (r_ : T0.T) (x_ : Int) (r : R_u29) : List (Nat × Blk) := []
def args_u29 (r_ : T0.T) (x_ : Int) : List AV := [.agg (rvs (enc T0 r_)), .r (.v (.int .i64 x_))]
def bin_u29 (r_ : T0.T) (x_ : Int) : List Blk := []
abbrev C_u29 (r_ : T0.T) (x_ : Int) (r : R_u29) : Prop := CC Tryz.prog 66 (args_u29 r_ x_) (bin_u29 r_ x_) (res_u29 r) (bo_u29 r_ x_ r)
def f_u29 (k : Nat) (r_ : T0.T) (x_ : Int) : Option R_u29 :=
  bif r_.2.2 then
  some (IntKind.i64.wrap (r_.1 - x_))
  else
  some (IntKind.i64.wrap (r_.1 + x_))
def v_u29 (k : Nat) (r_ : T0.T) (x_ : Int) : R_u29 := (f_u29 k r_ x_).getD 0
def ke_u29 (k : Nat) : Ke := (66, fun xs => match xs with
  | [_, _] => some [false, false]
  | _ => none, fun xs bs => match xs, bs with
  | [.agg qr_, .r (.v (.int .i64 x_))], [] => (decS [] T0 qr_).bind fun r_ => some (.one (res_u29 (v_u29 k r_ x_), bo_u29 r_ x_ (v_u29 k r_ x_)))
  | _, _ => none)
theorem of_u29 (k : Nat) (r_ : T0.T) (x_ : Int) (r : R_u29) (h : f_u29 k r_ x_ = some r) : C_u29 r_ x_ r := by
  refine CC.of (fn := Tryz.f66) (by kernel_rfl) (by kernel_rfl) (by kernel_rfl) (by kernel_rfl) ?_
  unfold f_u29 at h
  exact go (mkK []) [] [] [.autoB [4] true []] (gT h (fun c h => gL h) fun c h => gL h) (by kernel_rfl)
theorem cc_u29 {k : Nat} {r_ : T0.T} {x_ : Int} (h : (f_u29 k r_ x_).isSome = true) : C_u29 r_ x_ (v_u29 k r_ x_) := ccG (Φ := C_u29 r_ x_) h (of_u29 k r_ x_)
abbrev R_u32 : Type := T0.T
def res_u32 (r : R_u32) : AV := .agg (rvs (enc T0 r))
def bo_u32 (r_ : T0.T) (x_ : Int) (n_ : Int) (r : R_u32) : List (Nat × Blk) := []
def args_u32 (r_ : T0.T) (x_ : Int) (n_ : Int) : List AV := [.agg (rvs (enc T0 r_)), .r (.v (.int .i64 x_)), .r (.v (.int .i64 n_))]
def bin_u32 (r_ : T0.T) (x_ : Int) (n_ : Int) : List Blk := []
abbrev C_u32 (r_ : T0.T) (x_ : Int) (n_ : Int) (r : R_u32) : Prop := CC Tryz.prog 104 (args_u32 r_ x_ n_) (bin_u32 r_ x_ n_) (res_u32 r) (bo_u32 r_ x_ n_ r)
def f_u32 (k : Nat) (r_ : T0.T) (x_ : Int) (n_ : Int) : Option R_u32 :=
  if ((f_u29 k r_ x_).isSome = true) then
  some ((v_u29 k r_ x_, (n_, r_.2.2 && decide (n_ > 1))))
  else none
def v_u32 (k : Nat) (r_ : T0.T) (x_ : Int) (n_ : Int) : R_u32 := (f_u32 k r_ x_ n_).getD (T0).dflt
def ke_u32 (k : Nat) : Ke := (104, fun xs => match xs with
  | [_, _, _] => some [false, false, false]
  | _ => none, fun xs bs => match xs, bs with
  | [.agg qr_, .r (.v (.int .i64 x_)), .r (.v (.int .i64 n_))], [] => (decS [] T0 qr_).bind fun r_ => some (.one (res_u32 (v_u32 k r_ x_ n_), bo_u32 r_ x_ n_ (v_u32 k r_ x_ n_)))
  | _, _ => none)
theorem of_u32 (k : Nat) (r_ : T0.T) (x_ : Int) (n_ : Int) (r : R_u32) (h : f_u32 k r_ x_ n_ = some r) : C_u32 r_ x_ n_ r := by
  refine CC.of (fn := Tryz.f104) (by kernel_rfl) (by kernel_rfl) (by kernel_rfl) (by kernel_rfl) ?_
  unfold f_u32 at h
  exact go (mkK [ke_u29 k]) [] [] [.autoB [6] true []] (gN1 h (fun q => cc_u29 q) fun h => gL h) (by kernel_rfl)
theorem cc_u32 {k : Nat} {r_ : T0.T} {x_ : Int} {n_ : Int} (h : (f_u32 k r_ x_ n_).isSome = true) : C_u32 r_ x_ n_ (v_u32 k r_ x_ n_) := ccG (Φ := C_u32 r_ x_ n_) h (of_u32 k r_ x_ n_)
abbrev R_u25 : Type := List (T0).T
def res_u25 (r : R_u25) : AV := .tup []
def bo_u25 (b_0 : List (T0).T) (r_ : T0.T) (r : R_u25) : List (Nat × Blk) := [(0, .var 147 [.own 1 1]), (1, .row 54 T0 r)]
def args_u25 (b_0 : List (T0).T) (r_ : T0.T) : List AV := [.ptr 0 0 0, .agg (rvs (enc T0 r_))]
def bin_u25 (b_0 : List (T0).T) (r_ : T0.T) : List Blk := [.var 147 [.own 1 0], .row 54 T0 b_0]
abbrev C_u25 (b_0 : List (T0).T) (r_ : T0.T) (r : R_u25) : Prop := CC Tryz.prog 87 (args_u25 b_0 r_) (bin_u25 b_0 r_) (res_u25 r) (bo_u25 b_0 r_ r)
def w_u25 (g : List (T0).T → T0.T → Option R_u25) (b_0 : List (T0).T) (r_ : T0.T) : R_u25 := (g b_0 r_).getD []
def f_u25 : Nat → List (T0).T → T0.T → Option R_u25
  | 0, _, _ => none
  | k + 1, b_0, r_ =>
  bif (decide (r_.2.1 < (1 : Int))) then
  some b_0
  else
  bif ((↑b_0.length : Int) == (0 : Int)) then
  if ((f_u32 k r_ 0 r_.2.1).isSome = true) ∧ ((b_0.length + [v_u32 k r_ (0 : Int) r_.2.1].length) * (24 : Nat) ≤ (140737488355328 : Nat)) then
  some (b_0 ++ [v_u32 k r_ 0 r_.2.1])
  else none
  else
  if ((0 : Int) ≤ IntKind.i64.wrap ((↑b_0.length : Int) - (1 : Int))) ∧ (IntKind.i64.wrap ((↑b_0.length : Int) - (1 : Int)) < (↑b_0.length : Int)) then
  if ((f_u29 k (b_0.getD (IntKind.i64.wrap ((↑b_0.length : Int) - 1)).toNat T0.dflt) (IntKind.i64.wrap ((b_0.getD (IntKind.i64.wrap ((↑b_0.length : Int) - 1)).toNat T0.dflt).2.1 - 1))).isSome = true) then
  bif (IntKind.i64.wrap (r_.1 - v_u29 k (b_0.getD (IntKind.i64.wrap ((↑b_0.length : Int) - (1 : Int))).toNat T0.dflt) (IntKind.i64.wrap ((b_0.getD (IntKind.i64.wrap ((↑b_0.length : Int) - (1 : Int))).toNat T0.dflt).2.1 - (1 : Int)))) != (1 : Int) && IntKind.i64.wrap (r_.1 - v_u29 k (b_0.getD (IntKind.i64.wrap ((↑b_0.length : Int) - (1 : Int))).toNat T0.dflt) (IntKind.i64.wrap ((b_0.getD (IntKind.i64.wrap ((↑b_0.length : Int) - (1 : Int))).toNat T0.dflt).2.1 - (1 : Int)))) != (-1 : Int) || decide ((b_0.getD (IntKind.i64.wrap ((↑b_0.length : Int) - (1 : Int))).toNat T0.dflt).2.1 > (1 : Int)) && (! (IntKind.i64.wrap (r_.1 - v_u29 k (b_0.getD (IntKind.i64.wrap ((↑b_0.length : Int) - (1 : Int))).toNat T0.dflt) (IntKind.i64.wrap ((b_0.getD (IntKind.i64.wrap ((↑b_0.length : Int) - (1 : Int))).toNat T0.dflt).2.1 - (1 : Int)))) == (-1 : Int)) == (b_0.getD (IntKind.i64.wrap ((↑b_0.length : Int) - (1 : Int))).toNat T0.dflt).2.2)) then
  if ((f_u32 k r_ 0 r_.2.1).isSome = true) ∧ ((b_0.length + [v_u32 k r_ (0 : Int) r_.2.1].length) * (24 : Nat) ≤ (140737488355328 : Nat)) then
  some (b_0 ++ [v_u32 k r_ 0 r_.2.1])
  else none
  else
  bif (decide (r_.2.1 > (1 : Int)) && r_.2.2 == (IntKind.i64.wrap (r_.1 - v_u29 k (b_0.getD (IntKind.i64.wrap ((↑b_0.length : Int) - (1 : Int))).toNat T0.dflt) (IntKind.i64.wrap ((b_0.getD (IntKind.i64.wrap ((↑b_0.length : Int) - (1 : Int))).toNat T0.dflt).2.1 - (1 : Int)))) == (-1 : Int))) then
  if ((0 : Int) ≤ IntKind.i64.wrap ((↑b_0.length : Int) - (1 : Int))) ∧ (IntKind.i64.wrap ((↑b_0.length : Int) - (1 : Int)) < (↑b_0.length : Int)) then
  if ((f_u32 k r_ r_.2.1 (IntKind.i64.wrap (r_.2.1 - r_.2.1))).isSome = true) ∧ ((f_u25 k (b_0.set (IntKind.i64.wrap ((↑b_0.length : Int) - 1)).toNat ((b_0.getD (IntKind.i64.wrap ((↑b_0.length : Int) - 1)).toNat T0.dflt).1, IntKind.i64.wrap ((b_0.getD (IntKind.i64.wrap ((↑b_0.length : Int) - 1)).toNat T0.dflt).2.1 + r_.2.1), IntKind.i64.wrap (r_.1 - v_u29 k (b_0.getD (IntKind.i64.wrap ((↑b_0.length : Int) - 1)).toNat T0.dflt) (IntKind.i64.wrap ((b_0.getD (IntKind.i64.wrap ((↑b_0.length : Int) - 1)).toNat T0.dflt).2.1 - 1))) == (-1))) (v_u32 k r_ r_.2.1 (IntKind.i64.wrap (r_.2.1 - r_.2.1)))).isSome = true) then
  some (w_u25 (f_u25 k) (b_0.set (IntKind.i64.wrap ((↑b_0.length : Int) - 1)).toNat ((b_0.getD (IntKind.i64.wrap ((↑b_0.length : Int) - 1)).toNat T0.dflt).1, IntKind.i64.wrap ((b_0.getD (IntKind.i64.wrap ((↑b_0.length : Int) - 1)).toNat T0.dflt).2.1 + r_.2.1), IntKind.i64.wrap (r_.1 - v_u29 k (b_0.getD (IntKind.i64.wrap ((↑b_0.length : Int) - 1)).toNat T0.dflt) (IntKind.i64.wrap ((b_0.getD (IntKind.i64.wrap ((↑b_0.length : Int) - 1)).toNat T0.dflt).2.1 - 1))) == (-1))) (v_u32 k r_ r_.2.1 (IntKind.i64.wrap (r_.2.1 - r_.2.1))))
  else none
  else none
  else
  if ((0 : Int) ≤ IntKind.i64.wrap ((↑b_0.length : Int) - (1 : Int))) ∧ (IntKind.i64.wrap ((↑b_0.length : Int) - (1 : Int)) < (↑b_0.length : Int)) then
  if ((f_u32 k r_ 1 (IntKind.i64.wrap (r_.2.1 - 1))).isSome = true) ∧ ((f_u25 k (b_0.set (IntKind.i64.wrap ((↑b_0.length : Int) - 1)).toNat ((b_0.getD (IntKind.i64.wrap ((↑b_0.length : Int) - 1)).toNat T0.dflt).1, IntKind.i64.wrap ((b_0.getD (IntKind.i64.wrap ((↑b_0.length : Int) - 1)).toNat T0.dflt).2.1 + 1), IntKind.i64.wrap (r_.1 - v_u29 k (b_0.getD (IntKind.i64.wrap ((↑b_0.length : Int) - 1)).toNat T0.dflt) (IntKind.i64.wrap ((b_0.getD (IntKind.i64.wrap ((↑b_0.length : Int) - 1)).toNat T0.dflt).2.1 - 1))) == (-1))) (v_u32 k r_ 1 (IntKind.i64.wrap (r_.2.1 - 1)))).isSome = true) then
  some (w_u25 (f_u25 k) (b_0.set (IntKind.i64.wrap ((↑b_0.length : Int) - 1)).toNat ((b_0.getD (IntKind.i64.wrap ((↑b_0.length : Int) - 1)).toNat T0.dflt).1, IntKind.i64.wrap ((b_0.getD (IntKind.i64.wrap ((↑b_0.length : Int) - 1)).toNat T0.dflt).2.1 + 1), IntKind.i64.wrap (r_.1 - v_u29 k (b_0.getD (IntKind.i64.wrap ((↑b_0.length : Int) - 1)).toNat T0.dflt) (IntKind.i64.wrap ((b_0.getD (IntKind.i64.wrap ((↑b_0.length : Int) - 1)).toNat T0.dflt).2.1 - 1))) == (-1))) (v_u32 k r_ 1 (IntKind.i64.wrap (r_.2.1 - 1))))
  else none
  else none
  else none
  else none
def v_u25 (k : Nat) (b_0 : List (T0).T) (r_ : T0.T) : R_u25 := (f_u25 k b_0 r_).getD []
def ke_u25 (k : Nat) : Ke := (87, fun xs => match xs with
  | [.ptr _ _ _, _] => some [true, false]
  | _ => none, fun xs bs => match xs, bs with
  | [.ptr 0 0 0, .agg qr_], [.var 147 [.own 1 0], .row 54 tb_0_ qb_0] => (decS [] T0 qr_).bind fun r_ => (castL tb_0_ T0 qb_0).bind fun b_0 => some (.one (res_u25 (v_u25 k b_0 r_), bo_u25 b_0 r_ (v_u25 k b_0 r_)))
  | _, _ => none)
theorem of_u25 : ∀ (k : Nat) (b_0 : List (T0).T) (r_ : T0.T) (r : R_u25), f_u25 k b_0 r_ = some r → C_u25 b_0 r_ r
  | 0, b_0, r_, r, h => by simp [f_u25] at h
  | k + 1, b_0, r_, r, h => by
    have ih : ∀ {b_0 : List (T0).T} {r_ : T0.T}, (f_u25 k b_0 r_).isSome = true → C_u25 b_0 r_ (v_u25 k b_0 r_) := fun {b_0} {r_} h => ccG (Φ := C_u25 b_0 r_) h (of_u25 k b_0 r_)
    refine CC.of (fn := Tryz.f87) (by kernel_rfl) (by kernel_rfl) (by kernel_rfl) (by kernel_rfl) ?_
    rw [f_u25] at h
    exact go (mkK [ke_u29 k, ke_u32 k, ke_u25 k]) [] [] [.autoB [] true [1]] (gT h (fun c h => gL h) fun c h => gT h (fun c h => gN h (fun q => conjC (cc_u32 q.1) (conjC q.2 conj0)) fun h => gL h) fun c h => gN2 h fun h => gN1 h (fun q => cc_u29 q) fun h => gT h (fun c h => gN h (fun q => conjC (cc_u32 q.1) (conjC q.2 conj0)) fun h => gL h) fun c h => gT h (fun c h => gN2 h fun h => gN h (fun q => conjC (cc_u32 q.1) (conjC (ih q.2) conj0)) fun h => gL h) fun c h => gN2 h fun h => gN h (fun q => conjC (cc_u32 q.1) (conjC (ih q.2) conj0)) fun h => gL h) (by kernel_rfl)
theorem cc_u25 {k : Nat} {b_0 : List (T0).T} {r_ : T0.T} (h : (f_u25 k b_0 r_).isSome = true) : C_u25 b_0 r_ (v_u25 k b_0 r_) := ccG (Φ := C_u25 b_0 r_) h (of_u25 k b_0 r_)
abbrev R_u27 : Type := List (T0).T
def res_u27 (r : R_u27) : AV := .tup []
def bo_u27 (m_ : List (T0).T) (from_ : Int) (to_ : Int) (f_f00 : List (T0).T) (r : R_u27) : List (Nat × Blk) := [(0, .var 147 [.own 1 1]), (1, .row 54 T0 r)]
def args_u27 (m_ : List (T0).T) (from_ : Int) (to_ : Int) (f_f00 : List (T0).T) : List AV := [.r (.ro T0 m_), .r (.v (.int .i64 from_)), .r (.v (.int .i64 to_)), .fn (.func 87) [.ptr 0 0 0] []]
def bin_u27 (m_ : List (T0).T) (from_ : Int) (to_ : Int) (f_f00 : List (T0).T) : List Blk := [.var 147 [.own 1 0], .row 54 T0 f_f00]
abbrev C_u27 (m_ : List (T0).T) (from_ : Int) (to_ : Int) (f_f00 : List (T0).T) (r : R_u27) : Prop := CC Tryz.prog 86 (args_u27 m_ from_ to_ f_f00) (bin_u27 m_ from_ to_ f_f00) (res_u27 r) (bo_u27 m_ from_ to_ f_f00 r)
def st_u27_2 (m_ : List (T0).T) (from_ : Int) (to_ : Int) (f_f00 : List (T0).T) (y0 : Int) (y1 : Int) (y2 : Int) (y3 : List (T0).T) (y4 : Int) (y5 : Int) (y6 : List (T0).T) : St := ⟨mkS 46 [(1, .r (.v (.int .i64 y0))), (2, .r (.v (.int .i64 y1))), (3, .fn ((Fn.func 87)) [.ptr 0 0 0] []), (8, .r (.v (.int .i64 y2))), (13, .r (.ro T0 y3)), (14, .r (.v (.int .i64 y4))), (15, .r (.v (.int .i64 y5)))], [(0, 0, .var 147 [.own 1 1]), (1, 1, .row 54 T0 y6)]⟩
def f_u27_2 (k : Nat) (m_ : List (T0).T) (from_ : Int) (to_ : Int) (f_f00 : List (T0).T) : Nat → Int → Int → Int → List (T0).T → Int → Int → List (T0).T → Option R_u27
  | 0, _, _, _, _, _, _, _ => none
  | j + 1, y0, y1, y2, y3, y4, y5, y6 =>
  bif (decide (y5 < y4)) then
  if (0 ≤ y5) ∧ (y5 < (↑y3.length : Int)) then
  bif (decide ((if y2 > y0 then y2 else y0) < if IntKind.i64.wrap (y2 + (y3.getD y5.toNat T0.dflt).2.1) < y1 then IntKind.i64.wrap (y2 + (y3.getD y5.toNat T0.dflt).2.1) else y1)) then
  if ((f_u32 k (y3.getD y5.toNat T0.dflt) (IntKind.i64.wrap ((if y2 > y0 then y2 else y0) - y2)) (IntKind.i64.wrap ((if IntKind.i64.wrap (y2 + (y3.getD y5.toNat T0.dflt).2.1) < y1 then IntKind.i64.wrap (y2 + (y3.getD y5.toNat T0.dflt).2.1) else y1) - if y2 > y0 then y2 else y0))).isSome = true) ∧ ((f_u25 k y6 (v_u32 k (y3.getD y5.toNat T0.dflt) (IntKind.i64.wrap ((if y2 > y0 then y2 else y0) - y2)) (IntKind.i64.wrap ((if IntKind.i64.wrap (y2 + (y3.getD y5.toNat T0.dflt).2.1) < y1 then IntKind.i64.wrap (y2 + (y3.getD y5.toNat T0.dflt).2.1) else y1) - if y2 > y0 then y2 else y0)))).isSome = true) then
  f_u27_2 k m_ from_ to_ f_f00 j y0 y1 ((IntKind.i64.wrap (y2 + (y3.getD y5.toNat T0.dflt).2.1))) y3 y4 ((IntKind.i64.wrap (y5 + 1))) ((v_u25 k y6 (v_u32 k (y3.getD y5.toNat T0.dflt) (IntKind.i64.wrap ((if y2 > y0 then y2 else y0) - y2)) (IntKind.i64.wrap ((if IntKind.i64.wrap (y2 + (y3.getD y5.toNat T0.dflt).2.1) < y1 then IntKind.i64.wrap (y2 + (y3.getD y5.toNat T0.dflt).2.1) else y1) - if y2 > y0 then y2 else y0)))))
  else none
  else
  f_u27_2 k m_ from_ to_ f_f00 j y0 y1 ((IntKind.i64.wrap (y2 + (y3.getD y5.toNat T0.dflt).2.1))) y3 y4 ((IntKind.i64.wrap (y5 + 1))) y6
  else none
  else
  some y6
def f_u27 (k : Nat) (m_ : List (T0).T) (from_ : Int) (to_ : Int) (f_f00 : List (T0).T) : Option R_u27 :=
  f_u27_2 k m_ from_ to_ f_f00 k from_ to_ 0 m_ ((↑m_.length : Int)) 0 f_f00
def v_u27 (k : Nat) (m_ : List (T0).T) (from_ : Int) (to_ : Int) (f_f00 : List (T0).T) : R_u27 := (f_u27 k m_ from_ to_ f_f00).getD []
def ke_u27 (k : Nat) : Ke := (86, fun xs => match xs with
  | [_, _, _, .fn (.func 87) _ _] => some [false, false, false, true]
  | _ => none, fun xs bs => match xs, bs with
  | [.r (.ro tm__ qm_), .r (.v (.int .i64 from_)), .r (.v (.int .i64 to_)), .fn (.func 87) [.ptr 0 0 0] []], [.var 147 [.own 1 0], .row 54 tf_f00_ qf_f00] => (castL tm__ T0 qm_).bind fun m_ => (castL tf_f00_ T0 qf_f00).bind fun f_f00 => some (.one (res_u27 (v_u27 k m_ from_ to_ f_f00), bo_u27 m_ from_ to_ f_f00 (v_u27 k m_ from_ to_ f_f00)))
  | _, _ => none)
def cs_u27 : List (Nat × List Cmd) := [(2, [.autoB [1, 2, 3, 8, 13, 14, 15] false [1]])]
abbrev E_u27 (m_ : List (T0).T) (from_ : Int) (to_ : Int) (f_f00 : List (T0).T) (todo : List Item) (st : St) (o : Option R_u27) : Prop := ∀ r, o = some r → Ev Tryz.prog Tryz.f86 2 todo st (res_u27 r) (bo_u27 m_ from_ to_ f_f00 r)
theorem ev_u27 (k : Nat) (m_ : List (T0).T) (from_ : Int) (to_ : Int) (f_f00 : List (T0).T) : ∀ j, (∀ (y0 : Int) (y1 : Int) (y2 : Int) (y3 : List (T0).T) (y4 : Int) (y5 : Int) (y6 : List (T0).T), E_u27 m_ from_ to_ f_f00 (placeAt Tryz.f86 2) (st_u27_2 m_ from_ to_ f_f00 y0 y1 y2 y3 y4 y5 y6) (f_u27_2 k m_ from_ to_ f_f00 j y0 y1 y2 y3 y4 y5 y6))
  | 0 => fun _ _ _ _ _ _ _ _ h => (nomatch h)
  | j + 1 => by
    have ih := @ev_u27 k m_ from_ to_ f_f00 j
    · intro y0 y1 y2 y3 y4 y5 y6 r h
      rw [f_u27_2] at h
      exact go (mkK [ke_u32 k, ke_u25 k]) [] cs_u27 [.autoB [] true [1]] (gT h (fun c h => gN2 h fun h => gT h (fun c h => gN h (fun q => conjC (cc_u32 q.1) (conjC (cc_u25 q.2) conj0)) fun h => gC h 2 (ih _ _ _ _ _ _ _ _)) fun c h => gC h 2 (ih _ _ _ _ _ _ _ _)) fun c h => gL h) (by kernel_rfl)
theorem of_u27 (k : Nat) (m_ : List (T0).T) (from_ : Int) (to_ : Int) (f_f00 : List (T0).T) (r : R_u27) (h : f_u27 k m_ from_ to_ f_f00 = some r) : C_u27 m_ from_ to_ f_f00 r := by
  refine CC.of (fn := Tryz.f86) (by kernel_rfl) (by kernel_rfl) (by kernel_rfl) (by kernel_rfl) ?_
  unfold f_u27 at h
  exact go (mkK [ke_u32 k, ke_u25 k]) [] cs_u27 [.autoB [] true [1]] (gC h 2 ((ev_u27 k m_ from_ to_ f_f00 k) _ _ _ _ _ _ _ _)) (by kernel_rfl)
theorem cc_u27 {k : Nat} {m_ : List (T0).T} {from_ : Int} {to_ : Int} {f_f00 : List (T0).T} (h : (f_u27 k m_ from_ to_ f_f00).isSome = true) : C_u27 m_ from_ to_ f_f00 (v_u27 k m_ from_ to_ f_f00) := ccG (Φ := C_u27 m_ from_ to_ f_f00) h (of_u27 k m_ from_ to_ f_f00)
abbrev R_u20 : Type := List (T0).T
def res_u20 (r : R_u20) : AV := .tup []
def bo_u20 (p_ : T0.T) (z00 : List (T0).T) (r : R_u20) : List (Nat × Blk) := [(0, .var 48 [.own 1 1]), (1, .row 54 T0 r)]
def args_u20 (p_ : T0.T) (z00 : List (T0).T) : List AV := [.agg (rvs (enc T0 p_)), .ptr 0 0 0]
def bin_u20 (p_ : T0.T) (z00 : List (T0).T) : List Blk := [.var 48 [.own 1 0], .row 54 T0 z00]
abbrev C_u20 (p_ : T0.T) (z00 : List (T0).T) (r : R_u20) : Prop := CC Tryz.prog 88 (args_u20 p_ z00) (bin_u20 p_ z00) (res_u20 r) (bo_u20 p_ z00 r)
def f_u20 (k : Nat) (p_ : T0.T) (z00 : List (T0).T) : Option R_u20 :=
  if ((z00.length + [p_].length) * (24 : Nat) ≤ (140737488355328 : Nat)) then
  some (z00 ++ [p_])
  else none
def v_u20 (k : Nat) (p_ : T0.T) (z00 : List (T0).T) : R_u20 := (f_u20 k p_ z00).getD []
def ke_u20 (k : Nat) : Ke := (88, fun xs => match xs with
  | [_, .ptr _ _ _] => some [false, true]
  | _ => none, fun xs bs => match xs, bs with
  | [.agg qp_, .ptr 0 0 0], [.var 48 [.own 1 0], .row 54 tz00_ qz00] => (decS [] T0 qp_).bind fun p_ => (castL tz00_ T0 qz00).bind fun z00 => some (.one (res_u20 (v_u20 k p_ z00), bo_u20 p_ z00 (v_u20 k p_ z00)))
  | _, _ => none)
theorem of_u20 (k : Nat) (p_ : T0.T) (z00 : List (T0).T) (r : R_u20) (h : f_u20 k p_ z00 = some r) : C_u20 p_ z00 r := by
  refine CC.of (fn := Tryz.f88) (by kernel_rfl) (by kernel_rfl) (by kernel_rfl) (by kernel_rfl) ?_
  unfold f_u20 at h
  exact go (mkK []) [] [] [.autoB [] true [1]] (gN1 h id fun h => gL h) (by kernel_rfl)
theorem cc_u20 {k : Nat} {p_ : T0.T} {z00 : List (T0).T} (h : (f_u20 k p_ z00).isSome = true) : C_u20 p_ z00 (v_u20 k p_ z00) := ccG (Φ := C_u20 p_ z00) h (of_u20 k p_ z00)
abbrev R_u28 : Type := List (T0).T
def res_u28 (r : R_u28) : AV := .tup []
def bo_u28 (m_ : List (T0).T) (from_ : Int) (to_ : Int) (f_c00 : List (T0).T) (r : R_u28) : List (Nat × Blk) := [(0, .var 48 [.own 1 1]), (1, .row 54 T0 r)]
def args_u28 (m_ : List (T0).T) (from_ : Int) (to_ : Int) (f_c00 : List (T0).T) : List AV := [.r (.ro T0 m_), .r (.v (.int .i64 from_)), .r (.v (.int .i64 to_)), .fn (.func 88) [] [.ptr 0 0 0]]
def bin_u28 (m_ : List (T0).T) (from_ : Int) (to_ : Int) (f_c00 : List (T0).T) : List Blk := [.var 48 [.own 1 0], .row 54 T0 f_c00]
abbrev C_u28 (m_ : List (T0).T) (from_ : Int) (to_ : Int) (f_c00 : List (T0).T) (r : R_u28) : Prop := CC Tryz.prog 86 (args_u28 m_ from_ to_ f_c00) (bin_u28 m_ from_ to_ f_c00) (res_u28 r) (bo_u28 m_ from_ to_ f_c00 r)
def st_u28_2 (m_ : List (T0).T) (from_ : Int) (to_ : Int) (f_c00 : List (T0).T) (y0 : Int) (y1 : Int) (y2 : Int) (y3 : List (T0).T) (y4 : Int) (y5 : Int) (y6 : List (T0).T) : St := ⟨mkS 46 [(1, .r (.v (.int .i64 y0))), (2, .r (.v (.int .i64 y1))), (3, .fn ((Fn.func 88)) [] [.ptr 0 0 0]), (8, .r (.v (.int .i64 y2))), (13, .r (.ro T0 y3)), (14, .r (.v (.int .i64 y4))), (15, .r (.v (.int .i64 y5)))], [(0, 0, .var 48 [.own 1 1]), (1, 1, .row 54 T0 y6)]⟩
def f_u28_2 (k : Nat) (m_ : List (T0).T) (from_ : Int) (to_ : Int) (f_c00 : List (T0).T) : Nat → Int → Int → Int → List (T0).T → Int → Int → List (T0).T → Option R_u28
  | 0, _, _, _, _, _, _, _ => none
  | j + 1, y0, y1, y2, y3, y4, y5, y6 =>
  bif (decide (y5 < y4)) then
  if (0 ≤ y5) ∧ (y5 < (↑y3.length : Int)) then
  bif (decide ((if y2 > y0 then y2 else y0) < if IntKind.i64.wrap (y2 + (y3.getD y5.toNat T0.dflt).2.1) < y1 then IntKind.i64.wrap (y2 + (y3.getD y5.toNat T0.dflt).2.1) else y1)) then
  if ((f_u32 k (y3.getD y5.toNat T0.dflt) (IntKind.i64.wrap ((if y2 > y0 then y2 else y0) - y2)) (IntKind.i64.wrap ((if IntKind.i64.wrap (y2 + (y3.getD y5.toNat T0.dflt).2.1) < y1 then IntKind.i64.wrap (y2 + (y3.getD y5.toNat T0.dflt).2.1) else y1) - if y2 > y0 then y2 else y0))).isSome = true) ∧ ((f_u20 k (v_u32 k (y3.getD y5.toNat T0.dflt) (IntKind.i64.wrap ((if y2 > y0 then y2 else y0) - y2)) (IntKind.i64.wrap ((if IntKind.i64.wrap (y2 + (y3.getD y5.toNat T0.dflt).2.1) < y1 then IntKind.i64.wrap (y2 + (y3.getD y5.toNat T0.dflt).2.1) else y1) - if y2 > y0 then y2 else y0))) y6).isSome = true) then
  f_u28_2 k m_ from_ to_ f_c00 j y0 y1 ((IntKind.i64.wrap (y2 + (y3.getD y5.toNat T0.dflt).2.1))) y3 y4 ((IntKind.i64.wrap (y5 + 1))) ((v_u20 k (v_u32 k (y3.getD y5.toNat T0.dflt) (IntKind.i64.wrap ((if y2 > y0 then y2 else y0) - y2)) (IntKind.i64.wrap ((if IntKind.i64.wrap (y2 + (y3.getD y5.toNat T0.dflt).2.1) < y1 then IntKind.i64.wrap (y2 + (y3.getD y5.toNat T0.dflt).2.1) else y1) - if y2 > y0 then y2 else y0))) y6))
  else none
  else
  f_u28_2 k m_ from_ to_ f_c00 j y0 y1 ((IntKind.i64.wrap (y2 + (y3.getD y5.toNat T0.dflt).2.1))) y3 y4 ((IntKind.i64.wrap (y5 + 1))) y6
  else none
  else
  some y6
def f_u28 (k : Nat) (m_ : List (T0).T) (from_ : Int) (to_ : Int) (f_c00 : List (T0).T) : Option R_u28 :=
  f_u28_2 k m_ from_ to_ f_c00 k from_ to_ 0 m_ ((↑m_.length : Int)) 0 f_c00
def v_u28 (k : Nat) (m_ : List (T0).T) (from_ : Int) (to_ : Int) (f_c00 : List (T0).T) : R_u28 := (f_u28 k m_ from_ to_ f_c00).getD []
def ke_u28 (k : Nat) : Ke := (86, fun xs => match xs with
  | [_, _, _, .fn (.func 88) _ _] => some [false, false, false, true]
  | _ => none, fun xs bs => match xs, bs with
  | [.r (.ro tm__ qm_), .r (.v (.int .i64 from_)), .r (.v (.int .i64 to_)), .fn (.func 88) [] [.ptr 0 0 0]], [.var 48 [.own 1 0], .row 54 tf_c00_ qf_c00] => (castL tm__ T0 qm_).bind fun m_ => (castL tf_c00_ T0 qf_c00).bind fun f_c00 => some (.one (res_u28 (v_u28 k m_ from_ to_ f_c00), bo_u28 m_ from_ to_ f_c00 (v_u28 k m_ from_ to_ f_c00)))
  | _, _ => none)
def cs_u28 : List (Nat × List Cmd) := [(2, [.autoB [1, 2, 3, 8, 13, 14, 15] false [1]])]
abbrev E_u28 (m_ : List (T0).T) (from_ : Int) (to_ : Int) (f_c00 : List (T0).T) (todo : List Item) (st : St) (o : Option R_u28) : Prop := ∀ r, o = some r → Ev Tryz.prog Tryz.f86 2 todo st (res_u28 r) (bo_u28 m_ from_ to_ f_c00 r)
theorem ev_u28 (k : Nat) (m_ : List (T0).T) (from_ : Int) (to_ : Int) (f_c00 : List (T0).T) : ∀ j, (∀ (y0 : Int) (y1 : Int) (y2 : Int) (y3 : List (T0).T) (y4 : Int) (y5 : Int) (y6 : List (T0).T), E_u28 m_ from_ to_ f_c00 (placeAt Tryz.f86 2) (st_u28_2 m_ from_ to_ f_c00 y0 y1 y2 y3 y4 y5 y6) (f_u28_2 k m_ from_ to_ f_c00 j y0 y1 y2 y3 y4 y5 y6))
  | 0 => fun _ _ _ _ _ _ _ _ h => (nomatch h)
  | j + 1 => by
    have ih := @ev_u28 k m_ from_ to_ f_c00 j
    · intro y0 y1 y2 y3 y4 y5 y6 r h
      rw [f_u28_2] at h
      exact go (mkK [ke_u32 k, ke_u20 k]) [] cs_u28 [.autoB [] true [1]] (gT h (fun c h => gN2 h fun h => gT h (fun c h => gN h (fun q => conjC (cc_u32 q.1) (conjC (cc_u20 q.2) conj0)) fun h => gC h 2 (ih _ _ _ _ _ _ _ _)) fun c h => gC h 2 (ih _ _ _ _ _ _ _ _)) fun c h => gL h) (by kernel_rfl)
theorem of_u28 (k : Nat) (m_ : List (T0).T) (from_ : Int) (to_ : Int) (f_c00 : List (T0).T) (r : R_u28) (h : f_u28 k m_ from_ to_ f_c00 = some r) : C_u28 m_ from_ to_ f_c00 r := by
  refine CC.of (fn := Tryz.f86) (by kernel_rfl) (by kernel_rfl) (by kernel_rfl) (by kernel_rfl) ?_
  unfold f_u28 at h
  exact go (mkK [ke_u32 k, ke_u20 k]) [] cs_u28 [.autoB [] true [1]] (gC h 2 ((ev_u28 k m_ from_ to_ f_c00 k) _ _ _ _ _ _ _ _)) (by kernel_rfl)
theorem cc_u28 {k : Nat} {m_ : List (T0).T} {from_ : Int} {to_ : Int} {f_c00 : List (T0).T} (h : (f_u28 k m_ from_ to_ f_c00).isSome = true) : C_u28 m_ from_ to_ f_c00 (v_u28 k m_ from_ to_ f_c00) := ccG (Φ := C_u28 m_ from_ to_ f_c00) h (of_u28 k m_ from_ to_ f_c00)
abbrev R_u33 : Type := List (T0).T
def res_u33 (r : R_u33) : AV := .tup []
def bo_u33 (m_ : List (T0).T) (f_f00 : List (T0).T) (r : R_u33) : List (Nat × Blk) := [(0, .var 147 [.own 1 1]), (1, .row 54 T0 r)]
def args_u33 (m_ : List (T0).T) (f_f00 : List (T0).T) : List AV := [.r (.ro T0 m_), .fn (.func 87) [.ptr 0 0 0] []]
def bin_u33 (m_ : List (T0).T) (f_f00 : List (T0).T) : List Blk := [.var 147 [.own 1 0], .row 54 T0 f_f00]
abbrev C_u33 (m_ : List (T0).T) (f_f00 : List (T0).T) (r : R_u33) : Prop := CC Tryz.prog 89 (args_u33 m_ f_f00) (bin_u33 m_ f_f00) (res_u33 r) (bo_u33 m_ f_f00 r)
def st_u33_1 (m_ : List (T0).T) (f_f00 : List (T0).T) (y0 : List (T0).T) (y1 : Int) (y2 : List (T0).T) : St := ⟨mkS 35 [(0, .r (.ro T0 y0)), (1, .fn ((Fn.func 87)) [.ptr 0 0 0] []), (4, .r (.v (.int .i64 y1)))], [(0, 0, .var 147 [.own 1 1]), (1, 1, .row 54 T0 y2)]⟩
def f_u33_1 (k : Nat) (m_ : List (T0).T) (f_f00 : List (T0).T) : Nat → List (T0).T → Int → List (T0).T → Option R_u33
  | 0, _, _, _ => none
  | j + 1, y0, y1, y2 =>
  bif (decide (y1 ≥ (0 : Int))) then
  if (0 ≤ y1) ∧ (y1 < (↑y0.length : Int)) then
  if ((f_u29 k (y0.getD y1.toNat T0.dflt) (IntKind.i64.wrap ((y0.getD y1.toNat T0.dflt).2.1 - 1))).isSome = true) ∧ ((f_u25 k y2 (v_u29 k (y0.getD y1.toNat T0.dflt) (IntKind.i64.wrap ((y0.getD y1.toNat T0.dflt).2.1 - 1)), (y0.getD y1.toNat T0.dflt).2.1, ! (y0.getD y1.toNat T0.dflt).2.2 && decide ((y0.getD y1.toNat T0.dflt).2.1 > 1))).isSome = true) then
  f_u33_1 k m_ f_f00 j y0 ((IntKind.i64.wrap (y1 - 1))) ((v_u25 k y2 (v_u29 k (y0.getD y1.toNat T0.dflt) (IntKind.i64.wrap ((y0.getD y1.toNat T0.dflt).2.1 - 1)), (y0.getD y1.toNat T0.dflt).2.1, ! (y0.getD y1.toNat T0.dflt).2.2 && decide ((y0.getD y1.toNat T0.dflt).2.1 > 1))))
  else none
  else none
  else
  some y2
def f_u33 (k : Nat) (m_ : List (T0).T) (f_f00 : List (T0).T) : Option R_u33 :=
  f_u33_1 k m_ f_f00 k m_ ((IntKind.i64.wrap ((↑m_.length : Int) - 1))) f_f00
def v_u33 (k : Nat) (m_ : List (T0).T) (f_f00 : List (T0).T) : R_u33 := (f_u33 k m_ f_f00).getD []
def ke_u33 (k : Nat) : Ke := (89, fun xs => match xs with
  | [_, .fn (.func 87) _ _] => some [false, true]
  | _ => none, fun xs bs => match xs, bs with
  | [.r (.ro tm__ qm_), .fn (.func 87) [.ptr 0 0 0] []], [.var 147 [.own 1 0], .row 54 tf_f00_ qf_f00] => (castL tm__ T0 qm_).bind fun m_ => (castL tf_f00_ T0 qf_f00).bind fun f_f00 => some (.one (res_u33 (v_u33 k m_ f_f00), bo_u33 m_ f_f00 (v_u33 k m_ f_f00)))
  | _, _ => none)
def cs_u33 : List (Nat × List Cmd) := [(1, [.autoB [0, 1, 4] false [1]])]
abbrev E_u33 (m_ : List (T0).T) (f_f00 : List (T0).T) (todo : List Item) (st : St) (o : Option R_u33) : Prop := ∀ r, o = some r → Ev Tryz.prog Tryz.f89 2 todo st (res_u33 r) (bo_u33 m_ f_f00 r)
theorem ev_u33 (k : Nat) (m_ : List (T0).T) (f_f00 : List (T0).T) : ∀ j, (∀ (y0 : List (T0).T) (y1 : Int) (y2 : List (T0).T), E_u33 m_ f_f00 (placeAt Tryz.f89 1) (st_u33_1 m_ f_f00 y0 y1 y2) (f_u33_1 k m_ f_f00 j y0 y1 y2))
  | 0 => fun _ _ _ _ h => (nomatch h)
  | j + 1 => by
    have ih := @ev_u33 k m_ f_f00 j
    · intro y0 y1 y2 r h
      rw [f_u33_1] at h
      exact go (mkK [ke_u29 k, ke_u25 k]) [] cs_u33 [.autoB [] true [1]] (gT h (fun c h => gN2 h fun h => gN h (fun q => conjC (cc_u29 q.1) (conjC (cc_u25 q.2) conj0)) fun h => gC h 1 (ih _ _ _ _)) fun c h => gL h) (by kernel_rfl)
theorem of_u33 (k : Nat) (m_ : List (T0).T) (f_f00 : List (T0).T) (r : R_u33) (h : f_u33 k m_ f_f00 = some r) : C_u33 m_ f_f00 r := by
  refine CC.of (fn := Tryz.f89) (by kernel_rfl) (by kernel_rfl) (by kernel_rfl) (by kernel_rfl) ?_
  unfold f_u33 at h
  exact go (mkK [ke_u29 k, ke_u25 k]) [] cs_u33 [.autoB [] true [1]] (gC h 1 ((ev_u33 k m_ f_f00 k) _ _ _ _)) (by kernel_rfl)
theorem cc_u33 {k : Nat} {m_ : List (T0).T} {f_f00 : List (T0).T} (h : (f_u33 k m_ f_f00).isSome = true) : C_u33 m_ f_f00 (v_u33 k m_ f_f00) := ccG (Φ := C_u33 m_ f_f00) h (of_u33 k m_ f_f00)
abbrev RA_u26 : Type := Int
def resA_u26 (r : RA_u26) : AV := .tup [.r (.v (Value.slice none 0 0)), .r (.v (.int .i64 r))]
def boA_u26 (b_0 : List (T0).T) (r : RA_u26) : List (Nat × Blk) := [(0, .var 147 [.own 1 0]), (0, .row 54 T0 b_0)]
abbrev RB_u26 : Type := Int
def resB_u26 (r : RB_u26) : AV := .tup [.own 1 0, .r (.v (.int .i64 r))]
def boB_u26 (b_0 : List (T0).T) (r : RB_u26) : List (Nat × Blk) := [(0, .var 147 [.own 1 0]), (0, .row 54 T0 b_0)]
abbrev R_u26 : Type := RA_u26 ⊕ RB_u26
def res_u26 (r : R_u26) : AV := match r with
  | .inl a => resA_u26 a
  | .inr a => resB_u26 a
def bo_u26 (b_0 : List (T0).T) (r : R_u26) : List (Nat × Blk) := match r with
  | .inl a => boA_u26 b_0 a
  | .inr a => boB_u26 b_0 a
def args_u26 (b_0 : List (T0).T) : List AV := [.ptr 0 0 0]
def bin_u26 (b_0 : List (T0).T) : List Blk := [.var 147 [.own 1 0], .row 54 T0 b_0]
abbrev C_u26 (b_0 : List (T0).T) (r : R_u26) : Prop := CC Tryz.prog 90 (args_u26 b_0) (bin_u26 b_0) (res_u26 r) (bo_u26 b_0 r)
abbrev CA_u26 (b_0 : List (T0).T) (r : RA_u26) : Prop := CC Tryz.prog 90 (args_u26 b_0) (bin_u26 b_0) (resA_u26 r) (boA_u26 b_0 r)
abbrev CB_u26 (b_0 : List (T0).T) (r : RB_u26) : Prop := CC Tryz.prog 90 (args_u26 b_0) (bin_u26 b_0) (resB_u26 r) (boB_u26 b_0 r)
def f_u26 (k : Nat) (b_0 : List (T0).T) : Option R_u26 :=
  bif (decide ((↑b_0.length : Int) > (256 : Int))) then
  some ((.inl 8))
  else
  some ((.inr 0))
def v_u26 (k : Nat) (b_0 : List (T0).T) : R_u26 := (f_u26 k b_0).getD (.inl 0)
def vA_u26 (k : Nat) (b_0 : List (T0).T) : RA_u26 := lft 0 (v_u26 k b_0)
def vB_u26 (k : Nat) (b_0 : List (T0).T) : RB_u26 := rgt 0 (v_u26 k b_0)
def ke_u26 (k : Nat) : Ke := (90, fun xs => match xs with
  | [.ptr _ _ _] => some [true]
  | _ => none, fun xs bs => match xs, bs with
  | [.ptr 0 0 0], [.var 147 [.own 1 0], .row 54 tb_0_ qb_0] => (castL tb_0_ T0 qb_0).bind fun b_0 => some (.two (v_u26 k b_0).isLeft (resA_u26 (vA_u26 k b_0), boA_u26 b_0 (vA_u26 k b_0)) (resB_u26 (vB_u26 k b_0), boB_u26 b_0 (vB_u26 k b_0)))
  | _, _ => none)
theorem of_u26 (k : Nat) (b_0 : List (T0).T) (r : R_u26) (h : f_u26 k b_0 = some r) : C_u26 b_0 r := by
  refine CC.of (fn := Tryz.f90) (by kernel_rfl) (by kernel_rfl) (by kernel_rfl) (by kernel_rfl) ?_
  unfold f_u26 at h
  exact go (mkK []) [] [] [.autoB [2, 3] true []] (gT h (fun c h => gL h) fun c h => gL h) (by kernel_rfl)
theorem cc_u26 {k : Nat} {b_0 : List (T0).T} (h : (f_u26 k b_0).isSome = true) : C_u26 b_0 (v_u26 k b_0) := ccG (Φ := C_u26 b_0) h (of_u26 k b_0)
theorem ccA_u26 {k : Nat} {b_0 : List (T0).T} (h : (f_u26 k b_0).isSome = true) (hb : (v_u26 k b_0).isLeft = true) : CA_u26 b_0 (vA_u26 k b_0) := ccAG (Φ := C_u26 b_0) (cc_u26 h) hb
theorem ccB_u26 {k : Nat} {b_0 : List (T0).T} (h : (f_u26 k b_0).isSome = true) (hb : (v_u26 k b_0).isLeft = false) : CB_u26 b_0 (vB_u26 k b_0) := ccBG (Φ := C_u26 b_0) (cc_u26 h) hb
abbrev R_u19 : Type := List (T0).T × Int
def res_u19 (r : R_u19) : AV := .tup [.r (.ro T0 r.1), .r (.v (.int .i64 r.2))]
def bo_u19 (inner_ : List (T0).T) (outer_ : List (T0).T) (r : R_u19) : List (Nat × Blk) := []
def args_u19 (inner_ : List (T0).T) (outer_ : List (T0).T) : List AV := [.r (.ro T0 inner_), .r (.ro T0 outer_)]
def bin_u19 (inner_ : List (T0).T) (outer_ : List (T0).T) : List Blk := []
abbrev C_u19 (inner_ : List (T0).T) (outer_ : List (T0).T) (r : R_u19) : Prop := CC Tryz.prog 65 (args_u19 inner_ outer_) (bin_u19 inner_ outer_) (res_u19 r) (bo_u19 inner_ outer_ r)
def st_u19_9 (y0 : List (T0).T) (y1 : List (T0).T) (y2 : Int) (y3 : List (T0).T) (y4 : Int) (y5 : Int) : St := ⟨mkS 82 [(0, .r (.ro T0 y0)), (1, .r (.ro T0 y1)), (8, .r (.v (.int .i64 y2))), (27, .r (.ro T0 y3)), (28, .r (.v (.int .i64 y4))), (29, .r (.v (.int .i64 y5)))], []⟩
def st_u19_16 (y0 : List (T0).T) (y1 : List (T0).T) (y2 : Int) (y3 : Int) (y4 : List (T0).T) : St := ⟨mkS 82 [(1, .r (.ro T0 y0)), (11, .ptr 1000000 0 0), (44, .r (.ro T0 y1)), (45, .r (.v (.int .i64 y2))), (46, .r (.v (.int .i64 y3)))], [(1000000, 0, .var 147 [.own 1000001 0]), (1000001, 0, .row 54 T0 y4)]⟩
mutual
def f_u19_9 (k : Nat) : Nat → List (T0).T → List (T0).T → Int → List (T0).T → Int → Int → Option R_u19
  | 0, _, _, _, _, _, _ => none
  | j + 1, y0, y1, y2, y3, y4, y5 =>
  bif (decide (y5 < y4)) then
  if (0 ≤ y5) ∧ (y5 < (↑y3.length : Int)) then
  if ((f_u29 k (y3.getD y5.toNat T0.dflt) (IntKind.i64.wrap ((y3.getD y5.toNat T0.dflt).2.1 - 1))).isSome = true) then
  bif (decide ((if v_u29 k (y3.getD y5.toNat T0.dflt) (IntKind.i64.wrap ((y3.getD y5.toNat T0.dflt).2.1 - (1 : Int))) > (y3.getD y5.toNat T0.dflt).1 then v_u29 k (y3.getD y5.toNat T0.dflt) (IntKind.i64.wrap ((y3.getD y5.toNat T0.dflt).2.1 - (1 : Int))) else (y3.getD y5.toNat T0.dflt).1) ≥ y2)) then
  some (([], 21))
  else
  f_u19_9 k j y0 y1 y2 y3 y4 ((IntKind.i64.wrap (y5 + 1)))
  else none
  else none
  else
  f_u19_16 k j y1 y0 ((↑y0.length : Int)) 0 ([])
def f_u19_16 (k : Nat) : Nat → List (T0).T → List (T0).T → Int → Int → List (T0).T → Option R_u19
  | 0, _, _, _, _, _ => none
  | j + 1, y0, y1, y2, y3, y4 =>
  bif (decide (y3 < y2)) then
  if (0 ≤ y3) ∧ (y3 < (↑y1.length : Int)) then
  bif (! (y1.getD y3.toNat T0.dflt).2.2) then
  if ((f_u27 k y0 (y1.getD y3.toNat T0.dflt).1 (IntKind.i64.wrap ((y1.getD y3.toNat T0.dflt).1 + (y1.getD y3.toNat T0.dflt).2.1)) y4).isSome = true) then
  f_u19_16 k j y0 y1 y2 ((IntKind.i64.wrap (y3 + 1))) ((v_u27 k y0 (y1.getD y3.toNat T0.dflt).1 (IntKind.i64.wrap ((y1.getD y3.toNat T0.dflt).1 + (y1.getD y3.toNat T0.dflt).2.1)) y4))
  else none
  else
  if ((f_u28 k y0 (IntKind.i64.wrap (IntKind.i64.wrap ((y1.getD y3.toNat T0.dflt).1 - (y1.getD y3.toNat T0.dflt).2.1) + 1)) (IntKind.i64.wrap ((y1.getD y3.toNat T0.dflt).1 + 1)) []).isSome = true) then
  if ((f_u33 k (v_u28 k y0 (IntKind.i64.wrap (IntKind.i64.wrap ((y1.getD y3.toNat T0.dflt).1 - (y1.getD y3.toNat T0.dflt).2.1) + 1)) (IntKind.i64.wrap ((y1.getD y3.toNat T0.dflt).1 + 1)) []) y4).isSome = true) then
  f_u19_16 k j y0 y1 y2 ((IntKind.i64.wrap (y3 + 1))) ((v_u33 k (v_u28 k y0 (IntKind.i64.wrap (IntKind.i64.wrap ((y1.getD y3.toNat T0.dflt).1 - (y1.getD y3.toNat T0.dflt).2.1) + 1)) (IntKind.i64.wrap ((y1.getD y3.toNat T0.dflt).1 + 1)) []) y4))
  else none
  else none
  else none
  else
  bif (Sum.isLeft (v_u26 k y4)) then
  if ((f_u26 k y4).isSome = true) then
  some (([], vA_u26 k y4))
  else none
  else
  if ((f_u26 k y4).isSome = true) then
  some ((y4, vB_u26 k y4))
  else none
end
def f_u19 (k : Nat) (inner_ : List (T0).T) (outer_ : List (T0).T) : Option R_u19 :=
  if ((f_u18 k inner_).isSome = true) then
  bif (v_u18 k inner_ != (0 : Int)) then
  some (([], v_u18 k inner_))
  else
  if ((f_u18 k outer_).isSome = true) then
  bif (v_u18 k outer_ != (0 : Int)) then
  some (([], v_u18 k outer_))
  else
  if ((f_u31 k outer_).isSome = true) then
  f_u19_9 k k inner_ outer_ ((v_u31 k outer_)) inner_ ((↑inner_.length : Int)) 0
  else none
  else none
  else none
def v_u19 (k : Nat) (inner_ : List (T0).T) (outer_ : List (T0).T) : R_u19 := (f_u19 k inner_ outer_).getD ([], 0)
def ke_u19 (k : Nat) : Ke := (65, fun xs => match xs with
  | [_, _] => some [false, false]
  | _ => none, fun xs bs => match xs, bs with
  | [.r (.ro tinner__ qinner_), .r (.ro touter__ qouter_)], [] => (castL tinner__ T0 qinner_).bind fun inner_ => (castL touter__ T0 qouter_).bind fun outer_ => some (.one (res_u19 (v_u19 k inner_ outer_), bo_u19 inner_ outer_ (v_u19 k inner_ outer_)))
  | _, _ => none)
def K_u19 (k : Nat) : Calld := mkK [ke_u18 k, ke_u31 k, ke_u29 k, ke_u25 k, ke_u27 k, ke_u20 k, ke_u28 k, ke_u33 k, ke_u26 k]
def cs_u19 : List (Nat × List Cmd) := [(9, [.autoB [0, 1, 8, 27, 28, 29] false []]), (16, [.autoB [1, 11, 44, 45, 46] false []])]
abbrev E_u19 (inner_ : List (T0).T) (outer_ : List (T0).T) (todo : List Item) (st : St) (o : Option R_u19) : Prop := ∀ r, o = some r → Ev Tryz.prog Tryz.f65 0 todo st (res_u19 r) (bo_u19 inner_ outer_ r)
theorem ev_u19 (k : Nat) (inner_ : List (T0).T) (outer_ : List (T0).T) : ∀ j, (∀ (y0 : List (T0).T) (y1 : List (T0).T) (y2 : Int) (y3 : List (T0).T) (y4 : Int) (y5 : Int), E_u19 inner_ outer_ (placeAt Tryz.f65 9) (st_u19_9 y0 y1 y2 y3 y4 y5) (f_u19_9 k j y0 y1 y2 y3 y4 y5)) ∧ (∀ (y0 : List (T0).T) (y1 : List (T0).T) (y2 : Int) (y3 : Int) (y4 : List (T0).T), E_u19 inner_ outer_ (placeAt Tryz.f65 16) (st_u19_16 y0 y1 y2 y3 y4) (f_u19_16 k j y0 y1 y2 y3 y4))
  | 0 => ⟨fun _ _ _ _ _ _ _ h => (nomatch h), fun _ _ _ _ _ _ h => (nomatch h)⟩
  | j + 1 => by
    have ih := @ev_u19 k inner_ outer_ j
    refine ⟨?_, ?_⟩
    · intro y0 y1 y2 y3 y4 y5 r h
      rw [f_u19_9] at h
      exact go (K_u19 k) [] cs_u19 [.frz 4 false (RTy.list T0), .autoB [4, 5] true []] (gT h (fun c h => gN2 h fun h => gN1 h (fun q => cc_u29 q) fun h => gT h (fun c h => gL h) fun c h => gC h 9 (ih.1 _ _ _ _ _ _ _)) fun c h => gC h 16 (ih.2 _ _ _ _ _ _)) (by kernel_rfl)
    · intro y0 y1 y2 y3 y4 r h
      rw [f_u19_16] at h
      exact go (K_u19 k) [] cs_u19 [.frz 4 false (RTy.list T0), .autoB [4, 5] true []] (gT h (fun c h => gN2 h fun h => gT h (fun c h => gN1 h (fun q => cc_u27 q) fun h => gC h 16 (ih.2 _ _ _ _ _ _)) fun c h => gN1 h (fun q => cc_u28 q) fun h => gN1 h (fun q => cc_u33 q) fun h => gC h 16 (ih.2 _ _ _ _ _ _)) fun c h => gT h (fun c h => gN1 h (fun q => ccA_u26 q (by assumption)) fun h => gL h) fun c h => gN1 h (fun q => ccB_u26 q (by assumption)) fun h => gL h) (by kernel_rfl)
theorem of_u19 (k : Nat) (inner_ : List (T0).T) (outer_ : List (T0).T) (r : R_u19) (h : f_u19 k inner_ outer_ = some r) : C_u19 inner_ outer_ r := by
  refine CC.of (fn := Tryz.f65) (by kernel_rfl) (by kernel_rfl) (by kernel_rfl) (by kernel_rfl) ?_
  unfold f_u19 at h
  exact go (K_u19 k) [] cs_u19 [.frz 4 false (RTy.list T0), .autoB [4, 5] true []] (gN1 h (fun q => cc_u18 q) fun h => gT h (fun c h => gL h) fun c h => gN1 h (fun q => cc_u18 q) fun h => gT h (fun c h => gL h) fun c h => gN1 h (fun q => cc_u31 q) fun h => gC h 9 ((ev_u19 k inner_ outer_ k).1 _ _ _ _ _ _ _)) (by kernel_rfl)
theorem cc_u19 {k : Nat} {inner_ : List (T0).T} {outer_ : List (T0).T} (h : (f_u19 k inner_ outer_).isSome = true) : C_u19 inner_ outer_ (v_u19 k inner_ outer_) := ccG (Φ := C_u19 inner_ outer_) h (of_u19 k inner_ outer_)
abbrev R_u30 : Type := T15.T
def res_u30 (r : R_u30) : AV := .agg (rvs (enc T15 r))
def bo_u30 (r_ : T0.T) (r : R_u30) : List (Nat × Blk) := []
def args_u30 (r_ : T0.T) : List AV := [.agg (rvs (enc T0 r_))]
def bin_u30 (r_ : T0.T) : List Blk := []
abbrev C_u30 (r_ : T0.T) (r : R_u30) : Prop := CC Tryz.prog 44 (args_u30 r_) (bin_u30 r_) (res_u30 r) (bo_u30 r_ r)
def f_u30 (k : Nat) (r_ : T0.T) : Option R_u30 :=
  if ((f_u29 k r_ (IntKind.i64.wrap (r_.2.1 - 1))).isSome = true) then
  some ((if v_u29 k r_ (IntKind.i64.wrap (r_.2.1 - 1)) < r_.1 then v_u29 k r_ (IntKind.i64.wrap (r_.2.1 - 1)) else r_.1, IntKind.i64.wrap ((if v_u29 k r_ (IntKind.i64.wrap (r_.2.1 - 1)) > r_.1 then v_u29 k r_ (IntKind.i64.wrap (r_.2.1 - 1)) else r_.1) + 1)))
  else none
def v_u30 (k : Nat) (r_ : T0.T) : R_u30 := (f_u30 k r_).getD (T15).dflt
def ke_u30 (k : Nat) : Ke := (44, fun xs => match xs with
  | [_] => some [false]
  | _ => none, fun xs bs => match xs, bs with
  | [.agg qr_], [] => (decS [] T0 qr_).bind fun r_ => some (.one (res_u30 (v_u30 k r_), bo_u30 r_ (v_u30 k r_)))
  | _, _ => none)
theorem of_u30 (k : Nat) (r_ : T0.T) (r : R_u30) (h : f_u30 k r_ = some r) : C_u30 r_ r := by
  refine CC.of (fn := Tryz.f44) (by kernel_rfl) (by kernel_rfl) (by kernel_rfl) (by kernel_rfl) ?_
  unfold f_u30 at h
  exact go (mkK [ke_u29 k]) [] [] [.autoB [2] true []] (gN1 h (fun q => cc_u29 q) fun h => gL h) (by kernel_rfl)
theorem cc_u30 {k : Nat} {r_ : T0.T} (h : (f_u30 k r_).isSome = true) : C_u30 r_ (v_u30 k r_) := ccG (Φ := C_u30 r_) h (of_u30 k r_)
abbrev R_u108 : Type := Bool
def res_u108 (r : R_u108) : AV := .r (.v (.bool r))
def bo_u108 (a_ : Bool) (b_ : Bool) (r : R_u108) : List (Nat × Blk) := []
def args_u108 (a_ : Bool) (b_ : Bool) : List AV := [.r (.v (.bool a_)), .r (.v (.bool b_))]
def bin_u108 (a_ : Bool) (b_ : Bool) : List Blk := []
abbrev C_u108 (a_ : Bool) (b_ : Bool) (r : R_u108) : Prop := CC Tryz.prog 68 (args_u108 a_ b_) (bin_u108 a_ b_) (res_u108 r) (bo_u108 a_ b_ r)
def f_u108 (k : Nat) (a_ : Bool) (b_ : Bool) : Option R_u108 :=
  some a_
def v_u108 (k : Nat) (a_ : Bool) (b_ : Bool) : R_u108 := (f_u108 k a_ b_).getD false
def ke_u108 (k : Nat) : Ke := (68, fun xs => match xs with
  | [_, _] => some [false, false]
  | _ => none, fun xs bs => match xs, bs with
  | [.r (.v (.bool a_)), .r (.v (.bool b_))], [] => some (.one (res_u108 (v_u108 k a_ b_), bo_u108 a_ b_ (v_u108 k a_ b_)))
  | _, _ => none)
theorem of_u108 (k : Nat) (a_ : Bool) (b_ : Bool) (r : R_u108) (h : f_u108 k a_ b_ = some r) : C_u108 a_ b_ r := by
  refine CC.of (fn := Tryz.f68) (by kernel_rfl) (by kernel_rfl) (by kernel_rfl) (by kernel_rfl) ?_
  unfold f_u108 at h
  exact go (mkK []) [] [] [.autoB [4] true []] (gL h) (by kernel_rfl)
theorem cc_u108 {k : Nat} {a_ : Bool} {b_ : Bool} (h : (f_u108 k a_ b_).isSome = true) : C_u108 a_ b_ (v_u108 k a_ b_) := ccG (Φ := C_u108 a_ b_) h (of_u108 k a_ b_)
abbrev R_u106 : Type := Int
def res_u106 (r : R_u106) : AV := .r (.v (.int .i64 r))
def bo_u106 (l_ : List (T15).T) (r : R_u106) : List (Nat × Blk) := []
def args_u106 (l_ : List (T15).T) : List AV := [.r (.ro T15 l_)]
def bin_u106 (l_ : List (T15).T) : List Blk := []
abbrev C_u106 (l_ : List (T15).T) (r : R_u106) : Prop := CC Tryz.prog 91 (args_u106 l_) (bin_u106 l_) (res_u106 r) (bo_u106 l_ r)
def st_u106_4 (y0 : List (T15).T) (y1 : Int) (y2 : Int) : St := ⟨mkS 30 [(8, .r (.ro T15 y0)), (9, .r (.v (.int .i64 y1))), (10, .r (.v (.int .i64 y2)))], []⟩
def f_u106_4 (k : Nat) : Nat → List (T15).T → Int → Int → Option R_u106
  | 0, _, _, _ => none
  | j + 1, y0, y1, y2 =>
  bif (decide (y2 < y1)) then
  if (0 ≤ y2) ∧ (y2 < (↑y0.length : Int)) then
  bif (decide ((y0.getD y2.toNat T15.dflt).1 < (0 : Int)) || decide ((y0.getD y2.toNat T15.dflt).1 > (y0.getD y2.toNat T15.dflt).2) || decide ((y0.getD y2.toNat T15.dflt).2 > (17179869184 : Int))) then
  some 1
  else
  f_u106_4 k j y0 y1 ((IntKind.i64.wrap (y2 + 1)))
  else none
  else
  some 0
def f_u106 (k : Nat) (l_ : List (T15).T) : Option R_u106 :=
  bif (decide ((↑l_.length : Int) > (256 : Int))) then
  some 8
  else
  f_u106_4 k k l_ ((↑l_.length : Int)) 0
def v_u106 (k : Nat) (l_ : List (T15).T) : R_u106 := (f_u106 k l_).getD 0
def ke_u106 (k : Nat) : Ke := (91, fun xs => match xs with
  | [_] => some [false]
  | _ => none, fun xs bs => match xs, bs with
  | [.r (.ro tl__ ql_)], [] => (castL tl__ T15 ql_).bind fun l_ => some (.one (res_u106 (v_u106 k l_), bo_u106 l_ (v_u106 k l_)))
  | _, _ => none)
def cs_u106 : List (Nat × List Cmd) := [(4, [.autoB [8, 9, 10] false []])]
abbrev E_u106 (l_ : List (T15).T) (todo : List Item) (st : St) (o : Option R_u106) : Prop := ∀ r, o = some r → Ev Tryz.prog Tryz.f91 0 todo st (res_u106 r) (bo_u106 l_ r)
theorem ev_u106 (k : Nat) (l_ : List (T15).T) : ∀ j, (∀ (y0 : List (T15).T) (y1 : Int) (y2 : Int), E_u106 l_ (placeAt Tryz.f91 4) (st_u106_4 y0 y1 y2) (f_u106_4 k j y0 y1 y2))
  | 0 => fun _ _ _ _ h => (nomatch h)
  | j + 1 => by
    have ih := @ev_u106 k l_ j
    · intro y0 y1 y2 r h
      rw [f_u106_4] at h
      exact go (mkK []) [] cs_u106 [.autoB [2] true []] (gT h (fun c h => gN2 h fun h => gT h (fun c h => gL h) fun c h => gC h 4 (ih _ _ _ _)) fun c h => gL h) (by kernel_rfl)
theorem of_u106 (k : Nat) (l_ : List (T15).T) (r : R_u106) (h : f_u106 k l_ = some r) : C_u106 l_ r := by
  refine CC.of (fn := Tryz.f91) (by kernel_rfl) (by kernel_rfl) (by kernel_rfl) (by kernel_rfl) ?_
  unfold f_u106 at h
  exact go (mkK []) [] cs_u106 [.autoB [2] true []] (gT h (fun c h => gL h) fun c h => gC h 4 ((ev_u106 k l_ k) _ _ _ _)) (by kernel_rfl)
theorem cc_u106 {k : Nat} {l_ : List (T15).T} (h : (f_u106 k l_).isSome = true) : C_u106 l_ (v_u106 k l_) := ccG (Φ := C_u106 l_) h (of_u106 k l_)

end
end Go.AM
namespace Go.AM
open Go

end Go.AM
namespace Go.AM
open Go Go.Proofs Go.Shelf Go.RowKit Go.Lib
variable {P : Program} {ρ : Ren}

/-- the memory has grown, and what lay there lies as it lay -/
structure Ext (w w' : World) : Prop where
  grew : Grew w w'
  frame : ∀ B, B < w.heap.size → w'.heap[B]? = w.heap[B]?
theorem Ext.refl (w : World) : Ext w w := ⟨.refl w, fun _ _ => rfl⟩
theorem Ext.trans {a b c : World} (h : Ext a b) (k : Ext b c) : Ext a c := ⟨h.grew.trans k.grew, fun B hB => (k.frame B (Nat.lt_of_lt_of_le hB h.grew.size)).trans (h.frame B hB)⟩
end Go.AM
namespace Go.AM
open Go Go.Proofs Go.Shelf Go.RowKit

section
variable {P : Program}
/-- nothing came in by reference; one block comes out -/
theorem mem_one {cx : Cx} {env : Env} {b : Blk} {h : Value} {w' : World} (hn : ∀ n, env n = none) (hh : ∀ n, ¬ cx.hid n) (hent : ∀ nm h, cx.ent nm = some h ↔ env nm = some (0, h))
    (hg : Grew cx.w0 w') (hfr : ∀ B, B < cx.w0.heap.size → w'.heap[B]? = cx.w0.heap[B]?) (hb : ∀ B, hblk h = some B → cx.w0.heap.size ≤ B ∧ B < w'.heap.size)
    (hr : RepB w' (okOf cx (env.put 0 0 h) w') (env.put 0 0 h) h b) : Mem cx (numB 0 [(0, b)]) w' (env.put 0 0 h) := by
  have nent : ∀ nm h0, cx.ent nm = some h0 → False := fun nm h0 e => by
    have := (hent nm h0).1 e
    rw [hn] at this; cases this
  have hput : ∀ nm v x, env.put 0 0 h nm = some (v, x) → nm = 0 ∧ v = 0 ∧ x = h := fun nm v x e => by
    unfold Env.put at e
    split at e
    · rename_i hn
      simp at e
      exact ⟨hn, e.1.symm, e.2.symm⟩
    · rw [hn] at e; cases e
  refine ⟨fun nm ver b' e => ?_, fun nm e _ => ?_, fun nm h => absurd h (hh nm), fun nm nm' v v' h h' B e e' _ _ => ?_, fun nm v h' B e hq => ?_, hg, fun B hB _ => hfr B hB, fun nm h h0 _ e0 => (nent nm h0 e0).elim, fun nm h0 e0 => (nent nm h0 e0).elim⟩
  · have hn : nm = 0 ∧ ver = 0 ∧ b' = b := by
      simp only [numB, getB] at e
      cases hq : Nat.beq 0 nm <;> simp only [hq, cond_true, cond_false] at e
      · cases e
      · have := Nat.eq_of_beq_eq_true hq
        simp at e
        exact ⟨this.symm, e.1.symm, e.2.symm⟩
    obtain ⟨rfl, rfl, rfl⟩ := hn
    exact ⟨h, by simp [Env.put], hr⟩
  · unfold Env.put
    split
    · rename_i hn
      subst hn
      simp [numB, getB] at e
    · exact hn nm
  · rw [(hput _ _ _ e).1, (hput _ _ _ e').1]
  · obtain ⟨rfl, rfl, rfl⟩ := hput _ _ _ e
    exact ⟨.inl (hb B hq).1, (hb B hq).2⟩

/-- a row of one's own, as the kit tells it -/
theorem repB_of_owns {w : World} {ok : Nat → Prop} {env : Env} {base : Nat} {e : TypeId} {τ : RTy} {l : List τ.T} {v : Value} {us : List Value} (hpos : 0 < τ.sz) (h : w.ownsRow base e τ.sz v l.length us) (hu : All2 (RepR w ok) us (encL τ l)) : RepB w ok env v (.row e τ l) ∧ ∀ B, hblk v = some B → base ≤ B ∧ B < w.heap.size := by
  obtain ⟨hl, ⟨rfl, h0⟩ | ⟨g, cap, cur, rfl, hg, hh, hcap, hmx, hs, ht⟩⟩ := h
  · have : l = [] := List.length_eq_zero_iff.1 h0
    subst this
    exact ⟨.rowNil _ _ _, fun B hB => by simp [hblk] at hB⟩
  · by_cases hc : cap = 0
    · have hl0 : l.length = 0 := by omega
      have : l = [] := List.length_eq_zero_iff.1 hl0
      subst this; subst hc
      exact ⟨.rowNil _ _ _, fun B hB => by simp [hblk] at hB⟩
    · refine ⟨.row g e τ l cap cur hh hcap (by omega) hmx hs fun k hk => ?_, fun B hB => ?_⟩
      · have := hu.get Go.undef .undef k (by rw [encL_length]; exact hk)
        rw [← ht] at this
        simpa [List.getElem?_take, hk] using this
      · rw [hblk_sl (by omega)] at hB
        simp at hB; subst hB
        exact ⟨hg, (Array.getElem?_eq_some_iff.1 hh).1⟩

open Go.RowKit Go.Lib in
set_option maxHeartbeats 2000000 in
set_option maxRecDepth 100000 in
/-- Clone of a slice of no elements, wherever it stands -/
theorem clone_empty {ρ : Ren} (L : SlLaysE0.n41 P ρ) (i0 : TypeInfo) (z : Value) (size bytes : Nat) (hi : P.info? (ρ.t 23) = some i0) (hz0 : i0.zero = some z) (hz1 : i0.size = size) (hz2 : i0.bytes = bytes) (hzs : z.cells.size = size) (hsz : 0 < size)
    (z23 : ∀ w, (Go.sizeOf (ρ.t 23)).run P w = .ok size w) (ad : Addr) (c : Nat) (w : World) :
    Calls P (ρ.f 41) #[.slice (some ad) 0 c] w fun e w' => ∃ v', e = .returned v' ∧ w'.ownsRow w.heap.size (ρ.t 23) size v' 0 [] ∧ Below w.heap.size w w' := by
  have mixed := L.mixed; have t4 := L.t4; have a4 := L.a4; have z4 := L.z4; have v4 := L.v4; have t22 := L.t22; have a22 := L.a22; have z22 := L.z22; have v22 := L.v22
  have q22 : ∀ (w : World) (a : Option Addr) (n c n' c' : Nat), (binOp .eql (ρ.t 22) (.slice a n c) (.slice none n' c')).run P w = .ok (.bool a.isNone) w := fun w a n c n' c' => Lib.run_eql_slice_nil w _ _ a n c n' c' L.t22
  have u22 : ∀ w, Sem.run P (underlying (ρ.t 22)) w = .ok (TypeDesc.slice (ρ.t 23)) w := run_underlying t22
  obtain ⟨_, _, FG⟩ := L.f41
  go_enter FG, SlBodyN.n41_ntmps ρ
  go_wp2_with (at_builtin; refine wpList_append_own _ rfl _ _ (ρ.t 22) rfl w.heap.size (ρ.t 23) i0 z size bytes t22 hi hz0 hz1 hz2 hzs hsz _ _ _ rfl (World.ownsRow_made w #[] 0 (Nat.le_refl _) (Nat.zero_le _) (by simp)) ad 0 c [] rfl ?qc1 ?qc2 ?qc3 ?qc4 ?qc5 ?qc6 ?_)
  case qc1 => simp
  case qc2 => intro j u hj; simp at hj
  case qc3 => intro u hu; simp at hu
  case qc4 => simp [maxLen]
  case qc5 => simp
  case qc6 => simp
  intro v' w1 hown hgrow hnil
  go_wp2
  go_ret
  refine ⟨v', rfl, by simpa using hown, ?_⟩
  exact ((Below.refl _ w).alloc (Nat.le_refl _) _).grown hgrow (by simp) (by intro k hk; simp [Value.ownBlock] at hk; omega)

theorem cc_clone [GT P] {ρ : Ren} (L : SlLaysE0.n41 P ρ) {τ : RTy} {i0 : TypeInfo} {z : Value} (hi : P.info? (ρ.t 23) = some i0) (hz0 : i0.zero = some z) (hz1 : i0.size = τ.sz) (hzs : z.cells.size = τ.sz) (hpos : 0 < τ.sz) (hby : 0 < i0.bytes) (z23 : ∀ w, (Go.sizeOf (ρ.t 23)).run P w = .ok τ.sz w)
    (hf : ∃ fn c, P.funcs[ρ.f 41]? = some fn ∧ fn.body = some c ∧ (fn.name == "runtime.NumGoroutine") = false) (l : List τ.T) (hbig : l.length * i0.bytes ≤ 140737488355328) : CC P (ρ.f 41) [.r (.ro τ l)] [] (.own 0 0) [(0, .row (ρ.t 23) τ l)] := by
  refine ⟨hf, fun cx env vs hwf hG hh hent hm hs hargs => ?_⟩
  have none : ∀ n, env n = none := fun n => hm.dom n rfl (hh n)
  have hvs : vs = #[vs.getD 0 Go.undef] := by
    refine Array.ext (by rw [hs]; rfl) fun i hi1 hi2 => ?_
    have : i = 0 := by simpa using hi2
    subst this
    simp [hi1]
  have hr := hargs 0 (by simp)
  simp only [List.getD_cons_zero] at hr
  rw [hvs]
  generalize vs.getD 0 Go.undef = u at hr
  have hlen : l.length ≤ maxLen := by
    have : l.length ≤ l.length * i0.bytes := Nat.le_mul_of_pos_right _ hby
    unfold maxLen; omega
  have fin : ∀ {v' : Value} {w' : World} {us : List Value}, w'.ownsRow cx.w0.heap.size (ρ.t 23) τ.sz v' l.length us → Below cx.w0.heap.size cx.w0 w' → All2 (RepR cx.w0 (okOf cx env cx.w0)) us (encL τ l) →
      ∃ v env', (Ending.returned v' : Ending) = .returned v ∧ Mem cx (numB 0 [(0, .row (ρ.t 23) τ l)]) w' env' ∧ Rep w' (okOf cx env' w') env' v (.own 0 0) := fun {v' w' us} ho hB hu => by
    have ok' : ∀ B, okOf cx env cx.w0 B → okOf cx (env.put 0 0 v') w' B := fun B ⟨h1, h2, h3⟩ => by
      refine ⟨h1, Nat.lt_of_lt_of_le h2 hB.size, fun nm ver h e q => ?_⟩
      unfold Env.put at e
      split at e
      · simp at e
        obtain ⟨rfl, rfl⟩ := e
        obtain ⟨_, ⟨rfl, _⟩ | ⟨g, cap, cur, rfl, hg, _⟩⟩ := ho
        · simp [hblk] at q
        · cases cap with
          | zero => simp [hblk] at q
          | succ c => simp [hblk] at q; omega
      · rw [none] at e; cases e
    have hu' : All2 (RepR w' (okOf cx (env.put 0 0 v') w')) us (encL τ l) := hu.mono fun _ _ h => h.mono ok' fun B o hB' => cell_of_heap (hB.block B hB'.2.1) o
    obtain ⟨h1, h2⟩ := repB_of_owns (env := env.put 0 0 v') hpos ho hu'
    exact ⟨v', env.put 0 0 v', rfl, mem_one none hh hent ⟨hB.size, hB.os, hB.output⟩ (fun B hB' => hB.block B hB') h2 h1, .own ⟨0, _, by simp [Env.put], Nat.le_refl _, fun _ => rfl⟩⟩
  have nilC : ∀ cap, l = [] → Calls P (ρ.f 41) #[.slice Option.none 0 cap] cx.w0 fun e w' => ∃ v env', e = .returned v ∧ Mem cx (numB 0 [(0, .row (ρ.t 23) τ l)]) w' env' ∧ Rep w' (okOf cx env' w') env' v (.own 0 0) := fun cap h0 => by
    refine (AnyE.slices_Clone_nil L 0 cap cx.w0).mono fun e w' ⟨he, hw⟩ => ?_
    subst hw; subst h0; subst he
    exact fin (us := []) ⟨by simp, .inl ⟨rfl, rfl⟩⟩ (Below.refl _ _) .nil
  have some_ : ∀ (B o cap : Nat) (us : List Value), us.length = l.length * τ.sz → (∀ k, k < l.length * τ.sz → cx.w0.cell? ⟨B, o + k, Option.none⟩ = some (us.getD k Go.undef)) → All2 (RepR cx.w0 (okOf cx env cx.w0)) us (encL τ l) →
      Calls P (ρ.f 41) #[.slice (some ⟨B, o, Option.none⟩) l.length cap] cx.w0 fun e w' => ∃ v env', e = .returned v ∧ Mem cx (numB 0 [(0, .row (ρ.t 23) τ l)]) w' env' ∧ Rep w' (okOf cx env' w') env' v (.own 0 0) := fun B o cap us h1 h2 h3 => by
    refine (AnyE.slices_Clone L i0 z τ.sz i0.bytes hi hz0 hz1 rfl hzs hpos z23 B o l.length cap us cx.w0 h1 hlen hbig (fun j u hu => ?_) (encL_oneCell τ l us h3)).mono fun e w' ⟨v', he, ho, _, hB⟩ => ?_
    · obtain ⟨hj, hv⟩ := List.getElem?_eq_some_iff.1 hu
      rw [h2 j (by omega)]
      simp [hj, hv]
    · subst he
      exact fin ho hB h3
  cases hr with
  | r h =>
    cases h with
    | nil _ a cap =>
      cases a with
      | none => exact nilC cap rfl
      | some a =>
        obtain ⟨B, o, q⟩ := a
        cases q with
        | none => exact some_ B o cap [] (by simp) (fun k hk => by simp at hk) .nil
        | some q =>
          refine (clone_empty L i0 z τ.sz i0.bytes hi hz0 hz1 rfl hzs hpos z23 ⟨B, o, some q⟩ cap cx.w0).mono fun e w' ⟨v', he, ho, hB⟩ => ?_
          subst he
          exact fin ho hB .nil
    | ro _ _ B o cap g hB hcap hc hr =>
      obtain ⟨us, h1, h2, h3⟩ := repR_cells (RepR.ro τ l B o cap g hB hcap hc hr)
      exact some_ B o cap us h1 h2 h3
end
end Go.AM
namespace Go.AM
open Go Go.Proofs Go.Shelf Go.RowKit Go.Sort

def valsL (τ : RTy) : List τ.T → List Value
  | [] => []
  | x :: l => vals τ x ++ valsL τ l
theorem encL_flat {τ : RTy} (hf : τ.flat = true) : ∀ l : List τ.T, encL τ l = (valsL τ l).map .v
  | [] => rfl
  | x :: l => by simp [encL, valsL, rvs_enc_flat τ x hf, encL_flat hf l]
theorem valsL_length {τ : RTy} (hf : τ.flat = true) (l : List τ.T) : (valsL τ l).length = l.length * τ.sz := by
  rw [← encL_length, encL_flat hf]; simp

theorem repR_v_inv' {w : World} {ok : Nat → Prop} {u x : Value} (h : RepR w ok u (.v x)) : u = x := by
  cases h; rfl

section
variable {P : Program}

/-- what a row of one's own may be, to a function that changes it where it stands -/
def InPlace (P : Program) [GT P] (f : FuncId) (τ : RTy) (e : TypeId) (l l' : List τ.T) (ys : List Value) : Prop :=
  (l = [] → ∀ (w : World) (a : Option Addr), GT.G P w → Calls P f (.slice a 0 0 :: ys).toArray w fun en w' => en = .returned (.tuple #[]) ∧ Grew w w' ∧ ∀ B, B < w.heap.size → w'.heap[B]? = w.heap[B]?) ∧
  ∀ (w : World) (B cap : Nat) (cur : Array Value), GT.G P w → w.heap[B]? = some (.cells cur e (0, 0)) → l.length ≤ cap → 0 < cap → cap ≤ maxLen → cur.size = cap * τ.sz → (∀ k, k < l.length * τ.sz → cur.getD k Go.undef = (valsL τ l).getD k Go.undef) →
    Calls P f (.slice (some ⟨B, 0, none⟩) l.length cap :: ys).toArray w fun en w' => en = .returned (.tuple #[]) ∧ Grew w w' ∧ (∀ B', B' < w.heap.size → B' ≠ B → w'.heap[B']? = w.heap[B']?) ∧
      ∃ cur', w'.heap[B]? = some (.cells cur' e (0, 0)) ∧ cur'.size = cur.size ∧ ∀ k, k < l.length * τ.sz → cur'.getD k Go.undef = (valsL τ l').getD k Go.undef

theorem cc_inplace [GT P] {f : FuncId} {τ : RTy} {e : TypeId} {l l' : List τ.T} (hflat : τ.flat = true) (hlen : l'.length = l.length) {xs : List AV} {ys : List Value} (hxl : xs.length = ys.length)
    (hx : ∀ (w : World) (ok : Nat → Prop) (env : Env) (u : Value) (i : Nat), i < xs.length → Rep w ok env u (xs.getD i .undef) → u = ys.getD i Go.undef)
    (hf : ∃ fn c, P.funcs[f]? = some fn ∧ fn.body = some c ∧ (fn.name == "runtime.NumGoroutine") = false) (h : InPlace P f τ e l l' ys) :
    CC P f (.own 0 0 :: xs) [.row e τ l] (.tup []) [(0, .row e τ l')] := by
  refine ⟨hf, fun cx env vs hwf hG hh hent hm hs hargs => ?_⟩
  obtain ⟨top, h1, h2, h3, h4⟩ := hG
  have hG := GT.keep _ _ h3 h1
  obtain ⟨u, heu, hrep⟩ := hm.blk 0 0 (.row e τ l) rfl
  have hvs : vs = (u :: ys).toArray := by
    refine Array.ext (by rw [hs]; simp [hxl]) fun i hi hi2 => ?_
    have hi3 : i < xs.length + 1 := by rw [hs] at hi; simpa using hi
    have hr := hargs i (by simpa using hi3)
    cases i with
    | zero =>
      simp only [List.getD_cons_zero] at hr
      have : vs.getD 0 Go.undef = u := by
        generalize vs.getD 0 Go.undef = z at hr
        cases hr with
        | own hR =>
          obtain ⟨cv, x, e1, e2, e3⟩ := hR
          rw [heu] at e1
          simp at e1
          obtain ⟨rfl, rfl⟩ := e1
          exact e3 rfl
      simp [hi] at this
      simpa using this
    | succ i =>
      simp only [List.getD_cons_succ] at hr
      have := hx _ _ _ _ i (by omega) hr
      have hi4 : i < ys.length := by omega
      simp [hi, hi4] at this
      simpa using this
  subst hvs
  have upd : ∀ {w' : World}, Grew cx.w0 w' → (∀ B, B < cx.w0.heap.size → hblk u ≠ some B → w'.heap[B]? = cx.w0.heap[B]?) → RepB w' (okOf cx (env.put 0 0 u) w') (env.put 0 0 u) u (.row e τ l') →
      ∃ v env', (Ending.returned (.tuple #[]) : Ending) = .returned v ∧ Mem cx (numB 0 [(0, .row e τ l')]) w' env' ∧ Rep w' (okOf cx env' w') env' v (.tup []) := fun {w'} hg hk hr => by
    have T := mem_upd (ver := 0) (b := .row e τ l') hm (hh 0) ⟨⟨.inr ⟨0, u, heu, .inr ⟨rfl, rfl⟩⟩, hg, fun B hB hq => hk B hB (hq 0 u heu), fun B q => .inr ⟨0, u, heu, q⟩⟩, hr⟩
    exact ⟨_, _, rfl, T.mem, .tup _ _ rfl fun i hi => by simp at hi⟩
  generalize hb : Blk.row e τ l = b at hrep
  cases hrep with
  | rowNil _ _ a =>
    cases hb
    refine (h.1 rfl cx.w0 a hG).mono fun en w' ⟨he, hg, hk⟩ => ?_
    subst he
    refine upd hg (fun B hB _ => hk B hB) ?_
    have : l' = [] := List.length_eq_zero_iff.1 hlen
    subst this
    exact .rowNil _ _ _
  | row B _ _ _ cap cur hB hcap h0 hmx hsz hc =>
    cases hb
    refine (h.2 cx.w0 B cap cur hG hB hcap h0 hmx hsz fun k hk => ?_).mono fun en w' ⟨he, hg, hk, cur', hB', hs', hc'⟩ => ?_
    · have := hc k hk
      rw [encL_flat hflat] at this
      have hk2 : k < (valsL τ l).length := by rw [valsL_length hflat]; exact hk
      have e1 : ((valsL τ l).map RV.v).getD k .undef = .v ((valsL τ l).getD k Go.undef) := by simp [hk2]
      rw [e1] at this
      exact repR_v_inv' this
    · subst he
      have hhb : hblk (.slice (some ⟨B, 0, none⟩) l.length cap) = some B := hblk_sl h0
      refine upd hg (fun B' hB2 hq => hk B' hB2 fun q => hq (by rw [hhb, q])) ?_
      have R := RepB.row (env := env.put 0 0 (.slice (some ⟨B, 0, none⟩) l.length cap)) (ok := okOf cx (env.put 0 0 (.slice (some ⟨B, 0, none⟩) l.length cap)) w') B e τ l' cap cur' hB' (by omega) h0 hmx (by rw [hs', hsz]) fun k hk => by
        rw [hlen] at hk
        rw [hc' k hk, encL_flat hflat]
        have hk2 : k < (valsL τ l').length := by rw [valsL_length hflat, hlen]; exact hk
        simp [hk2]
        exact .v _
      rw [hlen] at R
      exact R
  | _ => cases hb

theorem cell_holds {w : World} {B : Nat} {cur : Array Value} {e : TypeId} (hB : w.heap[B]? = some (.cells cur e (0, 0))) {F : Array Value} (hs : F.size ≤ cur.size) (h : ∀ k, k < F.size → cur.getD k Go.undef = F.getD k Go.undef) : Holds id w B 0 F := fun j hj => by
  have hj2 : j < cur.size := by omega
  refine ⟨?_, ?_⟩
  · have := h j hj
    simp [hj, hj2] at this
    unfold World.cell?
    simp [hB, hj2, this, hj]
  · unfold World.frozen?
    simp [hB]

theorem putRow_block {w : World} {B : Nat} {cur : Array Value} {e : TypeId} (n : Nat) (hB : w.heap[B]? = some (.cells cur e (0, 0))) (F : Array Value) (os : Array Obj) (hs : F.size ≤ cur.size) :
    let w' := grow (putRow id (Sort.ahead w n) B 0 F) os
    Grew w w' ∧ (∀ B', B' < w.heap.size → B' ≠ B → w'.heap[B']? = w.heap[B']?) ∧ ∃ cur', w'.heap[B]? = some (.cells cur' e (0, 0)) ∧ cur'.size = cur.size ∧ ∀ k, k < F.size → cur'.getD k Go.undef = F.getD k Go.undef := by
  have hlt : B < w.heap.size := (Array.getElem?_eq_some_iff.1 hB).1
  have hsz : (putRow id (Sort.ahead w n) B 0 F).heap.size = w.heap.size := by simp [putRow, mapBlock, Sort.ahead]
  have hget : ∀ B', B' < w.heap.size → (grow (putRow id (Sort.ahead w n) B 0 F) os).heap[B']? = (w.heap.modify B (onCells (putCells id 0 F)))[B']? := fun B' hB' => by
    show (_ ++ os)[B']? = _
    rw [Array.getElem?_append_left (by rw [hsz]; exact hB')]
    rfl
  refine ⟨⟨?_, rfl, rfl⟩, fun B' hB' hne => ?_, putCells id 0 F cur, ?_, by simp [putCells], fun k hk => ?_⟩
  · show _ ≤ (_ ++ os).size
    simp [hsz]
  · rw [hget B' hB', Array.getElem?_modify]
    simp [Ne.symm hne]
  · rw [hget B hlt, Array.getElem?_modify]
    simp [hB, onCells]
  · have : k < cur.size := by omega
    simp [putCells, this, hk]

/-- slices.Sort at ints -/
theorem cc_sort_int [GT P] {ρ : Ren} (L : Lays.n189 P ρ) (hf : ∃ fn c, P.funcs[ρ.f 189]? = some fn ∧ fn.body = some c ∧ (fn.name == "runtime.NumGoroutine") = false) (e : TypeId) (l : List Int) (hb : l.length < 4611686018427387904) :
    CC P (ρ.f 189) [.own 0 0] [.row e (.int .i64) l] (.tup []) [(0, .row e (.int .i64) (l.mergeSort fun x y => decide (x ≤ y)))] := by
  have hv : ∀ l : List Int, valsL (.int .i64) l = l.map (Value.int .i64) := fun l => by
    induction l with
    | nil => rfl
    | cons x l ih => simp [valsL, vals, ih]
  refine cc_inplace (τ := .int .i64) (e := e) (l := l) (xs := []) (ys := []) rfl (List.length_mergeSort l) rfl (fun _ _ _ _ i hi => by simp at hi) hf ⟨fun _ w a _ => ?_, fun w B cap cur hG hB hcap h0 hmx hsz hc => ?_⟩
  · refine (Any.slices_Sort_int_none L a 0 w).mono fun en w' ⟨he, hw⟩ => ⟨he, ?_⟩
    subst hw
    exact ⟨Grew.refl _, fun _ _ => rfl⟩
  · have hsz' : cur.size = cap := by rw [hsz]; simp [RTy.sz]
    have hF : Holds (Value.int .i64) w B 0 l.toArray := fun j hj => by
      have hj : j < l.length := by simpa using hj
      have := (cell_holds hB (F := (l.map (Value.int .i64)).toArray) (by simp; omega) fun k hk => by
        have hk : k < l.length := by simpa using hk
        have := hc k (by simpa [RTy.sz] using hk)
        rw [hv] at this
        simpa using this) j (by simpa using hj)
      simpa [hj] using this
    refine (Any.slices_Sort_int L B 0 cap l w hF (Array.getElem?_eq_some_iff.1 hB).1 hb).mono fun en w' ⟨he, n, os, hw⟩ => ⟨he, ?_⟩
    have e0 : ∀ m : List Int, putRow (Value.int .i64) (Sort.ahead w n) B 0 m.toArray = putRow id (Sort.ahead w n) B 0 (m.map (Value.int .i64)).toArray := fun m => by
      unfold putRow
      congr 1
      funext c
      unfold putCells
      refine Array.ext (by simp) fun i h1 h2 => ?_
      by_cases q : i < m.length
      · simp [q]
      · simp [q]
    rw [e0] at hw
    subst hw
    have := putRow_block n hB ((l.mergeSort fun x y => decide (x ≤ y)).map (Value.int .i64)).toArray os (by simp; omega)
    refine ⟨this.1, this.2.1, ?_⟩
    obtain ⟨cur', h1, h2, h3⟩ := this.2.2
    refine ⟨cur', h1, h2, fun k hk => ?_⟩
    rw [h3 k (by simpa [RTy.sz] using hk), hv]
    simp
end
end Go.AM
namespace Go.AM
open Go Go.Proofs Go.Shelf Go.RowKit Go.Sort
section
variable {P : Program}

theorem flatK_valsL {α : Type} [Inhabited α] {τ : RTy} (hf : τ.flat = true) (dec : α → τ.T) (hpos : 0 < τ.sz) (d : Array α) :
    Sort.flatK (fun a => vals τ (dec a)) τ.sz d = (valsL τ (d.toList.map dec)).toArray := by
  have hl : ∀ (l : List α) (j i : Nat), j < l.length → i < τ.sz → (valsL τ (l.map dec)).getD (j * τ.sz + i) Go.undef = (vals τ (dec (l.getD j default))).getD i Go.undef := fun l => by
    induction l with
    | nil => intro j i h; simp at h
    | cons x l ih =>
      intro j i hj hi
      have hv := vals_length τ (dec x) hf
      cases j with
      | zero => simp [valsL, List.getElem?_append, hv, hi]
      | succ j =>
        have := ih j i (by simpa using hj) hi
        have e1 : (j + 1) * τ.sz + i - τ.sz = j * τ.sz + i := by rw [Nat.succ_mul]; omega
        have e2 : ¬ (j + 1) * τ.sz + i < τ.sz := by rw [Nat.succ_mul]; omega
        simpa [valsL, List.getElem?_append, hv, e1, e2] using this
  refine ext_get! (by simp [Sort.size_flatK, valsL_length hf]) fun t ht => ?_
  have ht' : t < d.size * τ.sz := by simpa using ht
  rw [Sort.get_flatK _ _ _ _ ht']
  have hd : t / τ.sz < d.size := Nat.div_lt_of_lt_mul (by rw [Nat.mul_comm]; exact ht')
  have := hl d.toList (t / τ.sz) (t % τ.sz) (by simpa using hd) (Nat.mod_lt _ hpos)
  rw [Nat.mul_comm, Nat.div_add_mod] at this
  have h2 : t < (valsL τ (d.toList.map dec)).length := by rw [valsL_length hf]; simpa using ht'
  have h3 : t % τ.sz < (vals τ (dec (d.toList.getD (t / τ.sz) default))).length := by rw [vals_length _ _ hf]; exact Nat.mod_lt _ hpos
  have e4 : d[t / τ.sz]! = d.toList.getD (t / τ.sz) default := by simp [hd]
  rw [e4, getElem!_pos (valsL τ (d.toList.map dec)).toArray t (by simpa using h2)]
  show (vals τ (dec (d.toList.getD (t / τ.sz) default)))[t % τ.sz]! = _
  rw [getElem!_pos (vals τ (dec (d.toList.getD (t / τ.sz) default))) (t % τ.sz) h3]
  rw [List.getD_eq_getElem?_getD, List.getD_eq_getElem?_getD, List.getElem?_eq_getElem h2, List.getElem?_eq_getElem h3] at this
  simpa using this.symm

/-- slices.SortFunc at structs of plain data -/
theorem cc_sortFunc [GT P] {ρ : Ren} (L : SlLaysF0.n6 P ρ) (hf : ∃ fn c, P.funcs[ρ.f 6]? = some fn ∧ fn.body = some c ∧ (fn.name == "runtime.NumGoroutine") = false) {τ : RTy} (hflat : τ.flat = true) (hpos : 0 < τ.sz)
    (aE : ∀ w, (isAgg (ρ.t 24)).run P w = .ok true w) (zE : ∀ w, (Go.sizeOf (ρ.t 24)).run P w = .ok τ.sz w) (e : TypeId) {α : Type} [Inhabited α] (dec : α → τ.T) (cf : α → α → Int) (hO : SWO (ltOf cf)) (g : Nat)
    (eg : ∀ args w, (callFunc g args).run P w = .ok (.enter g args) w) (hcmp : ∀ blk n w, CmpLays P g #[] (fun a => vals τ (dec a)) τ.sz cf blk 0 n w) (d : Array α) (hsz : d.size < 4611686018427387904) (h1 : ∀ x, ∀ v ∈ vals τ (dec x), v.oneCell' = true) :
    CC P (ρ.f 6) [.own 0 0, .r (.v (.func (.func g) #[] #[]))] [.row e τ (d.toList.map dec)] (.tup []) [(0, .row e τ ((pdq (ltOf cf) d 0 d.size (Lib.bitLen d.size) true true).toList.map dec))] := by
  have hp := pdq_sorts (ltOf cf) hO d 0 d.size (Lib.bitLen d.size) true true (Nat.zero_le _) (Nat.le_refl _) (Or.inl rfl)
  have hps : (pdq (ltOf cf) d 0 d.size (Lib.bitLen d.size) true true).size = d.size := hp.1.1
  refine cc_inplace (τ := τ) (e := e) (xs := [.r (.v (.func (.func g) #[] #[]))]) (ys := [.func (.func g) #[] #[]]) hflat (by simp [hps]) rfl (fun _ _ _ u i hi hr => ?_) hf ⟨fun h0 w a _ => ?_, fun w B cap cur hG hB hcap h0 hmx hs hc => ?_⟩
  · have : i = 0 := by simpa using hi
    subst this
    simp only [List.getD_cons_zero] at hr ⊢
    exact rep_v_inv hr
  · refine (AnyF.slices_SortFunc_none L a 0 _ w).mono fun en w' ⟨he, hw⟩ => ⟨he, ?_⟩
    subst hw
    exact ⟨Grew.refl _, fun _ _ => rfl⟩
  · have hl : (d.toList.map dec).length = d.size := by simp
    rw [hl] at hc hcap ⊢
    have hle : d.size * τ.sz ≤ cur.size := by rw [hs]; exact Nat.mul_le_mul_right _ hcap
    have hF : HoldsK (fun a => vals τ (dec a)) τ.sz w B 0 d := by
      unfold HoldsK
      rw [flatK_valsL hflat dec hpos]
      refine cell_holds hB (by simp [valsL_length hflat]; exact hle) fun k hk => ?_
      have hk : k < d.size * τ.sz := by simpa [valsL_length hflat] using hk
      rw [hc k hk]
      simp
    refine (AnyQ.slices_SortFunc_eq L τ.sz aE zE (fun a => vals τ (dec a)) (fun x => vals_length _ _ hflat) h1 cf hO g #[] B 0 cap d w eg (hcmp _ _ _) hF (Array.getElem?_eq_some_iff.1 hB).1 hsz).mono fun en w' ⟨he, n, os, hw⟩ => ⟨he, ?_⟩
    unfold sortWorldK putRowK at hw
    rw [flatK_valsL hflat dec hpos] at hw
    subst hw
    have hls : (valsL τ ((pdq (ltOf cf) d 0 d.size (Lib.bitLen d.size) true true).toList.map dec)).length = d.size * τ.sz := by rw [valsL_length hflat]; simp [hps]
    have := putRow_block n hB (valsL τ ((pdq (ltOf cf) d 0 d.size (Lib.bitLen d.size) true true).toList.map dec)).toArray os (by simp [hls]; exact hle)
    refine ⟨this.1, this.2.1, ?_⟩
    obtain ⟨cur', h1, h2, h3⟩ := this.2.2
    refine ⟨cur', h1, h2, fun k hk => ?_⟩
    rw [h3 k (by simpa [hls] using hk)]
    simp
end
end Go.AM
namespace Go.AM
open Go Go.Proofs Go.Shelf Go.RowKit Go.Sort
section
variable {P : Program}
/-- plain arguments; a fresh row of one's own comes out -/
theorem cc_fresh [GT P] {f : FuncId} {xs : List Value} {e : TypeId} {τ : RTy} {l : List τ.T} (hf : ∃ fn c, P.funcs[f]? = some fn ∧ fn.body = some c ∧ (fn.name == "runtime.NumGoroutine") = false)
    (h : ∀ w : World, GT.G P w → Calls P f xs.toArray w fun en w' => ∃ v, en = .returned v ∧ Grew w w' ∧ (∀ B, B < w.heap.size → w'.heap[B]? = w.heap[B]?) ∧ (∀ ok env, RepB w' ok env v (.row e τ l)) ∧ ∀ B, hblk v = some B → w.heap.size ≤ B ∧ B < w'.heap.size) :
    CC P f (rvals xs) [] (.own 0 0) [(0, .row e τ l)] := by
  refine ⟨hf, fun cx env vs hwf hG hh hent hm hs hargs => ?_⟩
  obtain ⟨top, h1, h2, h3, h4⟩ := hG
  have hlen : ∀ l : List Value, (rvals l).length = l.length := fun l => by induction l <;> simp [rvals, *]
  have hget : ∀ (l : List Value) (i : Nat), i < l.length → (rvals l).getD i .undef = .r (.v (l.getD i Go.undef)) := fun l => by
    induction l with
    | nil => intro i h; simp at h
    | cons x l ih =>
      intro i h
      cases i with
      | zero => rfl
      | succ i => simpa [rvals] using ih i (by simpa using h)
  have hvs : vs = xs.toArray := by
    refine Array.ext (by rw [hs, hlen]; simp) fun i hi hi2 => ?_
    have hi3 : i < xs.length := by simpa using hi2
    have := hargs i (by rw [hlen]; exact hi3)
    rw [hget xs i hi3] at this
    have := rep_v_inv this
    simpa [hi, hi3] using this
  subst hvs
  have none : ∀ n, env n = none := fun n => hm.dom n rfl (hh n)
  refine (h cx.w0 (GT.keep _ _ h3 h1)).mono fun en w' ⟨v, he, hg, hfr, hr, hb⟩ => ?_
  exact ⟨v, env.put 0 0 v, he, mem_one none hh hent hg hfr hb (hr _ _), .own ⟨0, _, by simp [Env.put], Nat.le_refl _, fun _ => rfl⟩⟩

/-- slices.Grow of nil -/
theorem cc_grow [GT P] {ρ : Ren} (L : Lays8.n4 P ρ) (hf : ∃ fn c, P.funcs[ρ.f 4]? = some fn ∧ fn.body = some c ∧ (fn.name == "runtime.NumGoroutine") = false) (i0 : TypeInfo) (z : Value) (hi0 : P.info? (ρ.t 25) = some i0) (hz0 : i0.zero = some z) (τ : RTy) (hs : i0.size = τ.sz) (hzs : z.cells.size = τ.sz) (hpos : 0 < τ.sz) (hby : 0 < i0.bytes)
    (n : Nat) (hbig : n * i0.bytes ≤ 140737488355328) : CC P (ρ.f 4) [.r (.v (.slice none 0 0)), .r (.v (.int .i64 n))] [] (.own 0 0) [(0, .row (ρ.t 25) τ [])] := by
  have hn : n ≤ 140737488355328 := Nat.le_trans (Nat.le_mul_of_pos_right _ hby) hbig
  refine cc_fresh (xs := [.slice none 0 0, .int .i64 n]) hf fun w _ => ?_
  by_cases h0 : n = 0
  · subst h0
    refine (Any8.slices_Grow_room L none 0 0 0 w (Nat.le_refl _) (by omega) (by omega) (by omega)).mono fun en w' ⟨he, hw⟩ => ?_
    subst hw
    exact ⟨_, he, Grew.refl _, fun _ _ => rfl, fun _ _ => .rowNil _ _ _, fun B hB => by simp [hblk] at hB⟩
  · refine (Any8.slices_Grow_grow L i0 z hi0 hz0 (by omega) none 0 0 n [] w (Nat.le_refl _) (by omega) (by simpa using hbig) (by omega) (by simp) (fun _ => rfl) (fun a ha => by cases ha)).mono fun en w' ⟨he, hw⟩ => ?_
    have hge := grownCap_ge w (0 + n) 0 (ρ.t 25)
    have hm := grownCap_le_maxLen w (0 + n) 0 (ρ.t 25) (by unfold maxLen; omega)
    subst hw
    refine ⟨_, he, ⟨?_, rfl, rfl⟩, fun B hB => ?_, fun ok env => ?_, fun B hB => ?_⟩
    · show w.heap.size ≤ (w.heap.push _).size
      simp
    · show (w.heap.push _)[B]? = _
      rw [Array.getElem?_push]
      simp; omega
    · refine .row w.heap.size (ρ.t 25) τ [] _ _ (heap_alloc_new w.drew _) (Nat.zero_le _) (by omega) hm ?_ fun k hk => by simp at hk
      simp only [Nat.zero_add] at hge ⊢
      simp [size_zeroCells, hzs, ← Nat.add_mul]
      congr 1
      omega
    · rw [hblk_sl (by omega)] at hB
      simp at hB
      subst hB
      refine ⟨Nat.le_refl _, ?_⟩
      show _ < (w.heap.push _).size
      simp
end
end Go.AM
namespace Go.AM
open Go Go.Proofs Go.Shelf Go.RowKit Go.Sort

/-- what is asked of an element's type -/
def elemOk (P : Program) (t : TypeId) (sz b : Nat) : Bool :=
  match P.info? t with
  | some i => match i.zero with
    | some z => Nat.beq i.size sz && (Nat.beq z.cells.size sz && (Nat.beq i.bytes b && (Nat.blt 0 sz && Nat.blt 0 b)))
    | none => false
  | none => false
theorem elemOk_spec {P : Program} {t : TypeId} {sz b : Nat} (h : elemOk P t sz b = true) : ∃ i z, P.info? t = some i ∧ i.zero = some z ∧ i.size = sz ∧ z.cells.size = sz ∧ i.bytes = b ∧ 0 < sz ∧ 0 < b := by
  unfold elemOk at h
  split at h
  · rename_i i hi
    split at h
    · rename_i z hz
      simp only [Bool.and_eq_true] at h
      exact ⟨i, z, hi, hz, Nat.eq_of_beq_eq_true h.1, Nat.eq_of_beq_eq_true h.2.1, Nat.eq_of_beq_eq_true h.2.2.1, Nat.le_of_ble_eq_true h.2.2.2.1, Nat.le_of_ble_eq_true h.2.2.2.2⟩
    · cases h
  · cases h

section
variable {P : Program}
theorem cc_clone' [GT P] {ρ : Ren} (L : SlLaysE0.n41 P ρ) {τ : RTy} {b : Nat} (he : elemOk P (ρ.t 23) τ.sz b = true) (z23 : ∀ w, (Go.sizeOf (ρ.t 23)).run P w = .ok τ.sz w)
    (hf : ∃ fn c, P.funcs[ρ.f 41]? = some fn ∧ fn.body = some c ∧ (fn.name == "runtime.NumGoroutine") = false) (l : List τ.T) (hbig : l.length * b ≤ 140737488355328) : CC P (ρ.f 41) [.r (.ro τ l)] [] (.own 0 0) [(0, .row (ρ.t 23) τ l)] := by
  obtain ⟨i, z, h1, h2, h3, h4, h5, h6, h7⟩ := elemOk_spec he
  subst h5
  exact cc_clone L h1 h2 h3 h4 h6 h7 z23 hf l hbig
theorem cc_grow' [GT P] {ρ : Ren} (L : Lays8.n4 P ρ) (hf : ∃ fn c, P.funcs[ρ.f 4]? = some fn ∧ fn.body = some c ∧ (fn.name == "runtime.NumGoroutine") = false) (τ : RTy) {b : Nat} (he : elemOk P (ρ.t 25) τ.sz b = true)
    (n : Int) (h0 : 0 ≤ n) (hbig : n.toNat * b ≤ 140737488355328) : CC P (ρ.f 4) [.r (.v (.slice none 0 0)), .r (.v (.int .i64 n))] [] (.own 0 0) [(0, .row (ρ.t 25) τ [])] := by
  obtain ⟨i, z, h1, h2, h3, h4, h5, h6, h7⟩ := elemOk_spec he
  subst h5
  obtain ⟨m, rfl⟩ := Int.eq_ofNat_of_zero_le h0
  exact cc_grow L hf i z h1 h2 τ h3 h4 h6 h7 m (by simpa using hbig)

/-- ints that a comparison by difference takes -/
def SmallI (x : Int) : Prop := 0 ≤ x ∧ x ≤ 4611686018427387904
instance (x : Int) : Decidable (SmallI x) := inferInstanceAs (Decidable (_ ∧ _))
abbrev SPair : Type := {x : Int × Int // SmallI x.1}
instance : Inhabited SPair := ⟨⟨(0, 0), by decide⟩⟩
def toSP : List (Int × Int) → List SPair
  | [] => []
  | x :: l => if h : SmallI x.1 then ⟨x, h⟩ :: toSP l else toSP l
theorem toSP_val : ∀ l : List (Int × Int), (∀ x ∈ l, SmallI x.1) → (toSP l).map (·.1) = l
  | [], _ => rfl
  | x :: l, h => by
    have h1 : SmallI x.1 := h x (by simp)
    simp [toSP, h1, toSP_val l fun y hy => h y (by simp [hy])]
def spCmp (x y : SPair) : Int := x.1.1 - y.1.1
theorem spCmp_lt (x y : SPair) : ltOf spCmp x y = decide (x.1.1 < y.1.1) := by
  unfold ltOf spCmp
  by_cases h : x.1.1 < y.1.1
  · rw [decide_eq_true h, decide_eq_true (by omega)]
  · rw [decide_eq_false h, decide_eq_false (by omega)]
theorem spCmp_swo : SWO (ltOf spCmp) where
  irrefl x := by rw [spCmp_lt]; simp
  trans x y z h1 h2 := by rw [spCmp_lt] at *; rw [decide_eq_true_iff] at *; omega
  ntrans x y z h1 h2 := by rw [spCmp_lt] at *; rw [decide_eq_false_iff_not] at *; omega
/-- pairs by their first numbers, as Go's sort lays them -/
def sortSP (l : List (Int × Int)) : List (Int × Int) := (pdq (ltOf spCmp) (toSP l).toArray 0 (toSP l).toArray.size (Lib.bitLen (toSP l).toArray.size) true true).toList.map (·.1)
end

theorem perm_sortSP {l : List (Int × Int)} (h : ∀ x ∈ l, SmallI x.1) : (sortSP l).Perm l := by
  have hp := (pdq_sorts (ltOf spCmp) spCmp_swo (toSP l).toArray 0 (toSP l).toArray.size (Lib.bitLen (toSP l).toArray.size) true true (Nat.zero_le _) (Nat.le_refl _) (Or.inl rfl)).1
  have h3 := hp.2.2
  have e1 : ∀ (d : Array SPair) (n : Nat), d.size = n → d.extract 0 n = d := fun d n hn => by subst hn; exact Array.extract_size
  rw [e1 _ _ hp.1, e1 _ _ rfl] at h3
  have := h3.map (fun x : SPair => x.1)
  unfold sortSP
  refine this.trans ?_
  show (List.map (fun x : SPair => x.1) (toSP l)).Perm l
  rw [toSP_val l h]

theorem sorted_sortSP {l : List (Int × Int)} : (sortSP l).Pairwise fun x y => x.1 ≤ y.1 := by
  have hp := pdq_sorts (ltOf spCmp) spCmp_swo (toSP l).toArray 0 (toSP l).toArray.size (Lib.bitLen (toSP l).toArray.size) true true (Nat.zero_le _) (Nat.le_refl _) (Or.inl rfl)
  have hs := hp.1.1
  have h := hp.2
  unfold sortSP
  generalize pdq (ltOf spCmp) (toSP l).toArray 0 (toSP l).toArray.size (Lib.bitLen (toSP l).toArray.size) true true = d at hs h
  rw [List.pairwise_map, List.pairwise_iff_getElem]
  intro i j hi hj hij
  have := h i j (Nat.zero_le _) hij (by rw [← hs]; simpa using hj)
  have hi' : i < d.size := by simpa using hi
  have hj' : j < d.size := by simpa using hj
  rw [getElem!_pos d i hi', getElem!_pos d j hj'] at this
  rw [spCmp_lt, decide_eq_false_iff_not] at this
  simp only [Array.getElem_toList]
  omega
end Go.AM
/-
  DERIVED: THE SHELF's CONTRACTS AT THIS DUMP, IN PLAIN WORDS (tools/lay-plain.mjs out of 'TryzjShelf.lean', which tools/lay-shelf.mjs wrote): THE SAME DECLARATIONS UNDER THE SAME NAMES: 'import', 'namespace', 'open', 'def', 'theorem' AND NOTHING ELSE: no command of the shelf's: FOR A HAND-IN. Each laying: the table of numbers ('.._ren') and one theorem, a field a fact of the dump's own or the kernel's comparison; each contract: ONE APPLICATION.
-/
namespace Go.Proofs
open Go.Shelf
def Tryz.sort_int_ren : Go.Shelf.Ren := ⟨fun | 189 => 94 | 125 => 110 | 257 => 109 | 128 => 126 | 129 => 127 | 294 => 117 | 295 => 118 | 296 => 119 | 297 => 120 | 298 => 121 | 299 => 122 | 216 => 123 | 300 => 124 | 301 => 125 | 328 => 138 | 329 => 139 | 330 => 140 | 331 => 141 | 332 => 142 | 215 => 143 | 343 => 147 | n => n, fun | 28 => 55 | 3 => 3 | 46 => 130 | 0 => 0 | 51 => 182 | 53 => 184 | 4 => 4 | 183 => 176 | 182 => 175 | 131 => 72 | 5 => 5 | 9 => 9 | 218 => 191 | 222 => 195 | 228 => 199 | 229 => 92 | n => n, fun | n => n⟩
theorem Tryz.sort_int : Go.Proofs.Lays.n189 Tryz.prog Tryz.sort_int_ren := {
  mixed := by kernel_rfl
  f125 := Tryz.func110.trans (congrArg some (by kernel_rfl))
  f128 := Tryz.func126.trans (congrArg some (by kernel_rfl))
  f129 := Tryz.func127.trans (congrArg some (by kernel_rfl))
  f189 := Tryz.func94.trans (congrArg some (by kernel_rfl))
  f215 := Tryz.func143.trans (congrArg some (by kernel_rfl))
  f216 := Tryz.func123.trans (congrArg some (by kernel_rfl))
  f257 := Tryz.func109.trans (congrArg some (by kernel_rfl))
  f294 := Tryz.func117.trans (congrArg some (by kernel_rfl))
  f295 := Tryz.func118.trans (congrArg some (by kernel_rfl))
  f296 := Tryz.func119.trans (congrArg some (by kernel_rfl))
  f297 := Tryz.func120.trans (congrArg some (by kernel_rfl))
  f298 := Tryz.func121.trans (congrArg some (by kernel_rfl))
  f299 := Tryz.func122.trans (congrArg some (by kernel_rfl))
  f300 := Tryz.func124.trans (congrArg some (by kernel_rfl))
  f301 := Tryz.func125.trans (congrArg some (by kernel_rfl))
  f328 := Tryz.func138.trans (congrArg some (by kernel_rfl))
  f329 := Tryz.func139.trans (congrArg some (by kernel_rfl))
  f330 := Tryz.func140.trans (congrArg some (by kernel_rfl))
  f331 := Tryz.func141.trans (congrArg some (by kernel_rfl))
  f332 := Tryz.func142.trans (congrArg some (by kernel_rfl))
  f343 := Tryz.func147.trans (congrArg some (by kernel_rfl))
  t0 := Tryz.underlying0
  a0 := Tryz.isAgg0
  z0 := Tryz.sizeOf0
  v0 := Tryz.zeroValue0
  t3 := Tryz.underlying3
  a3 := Tryz.isAgg3
  z3 := Tryz.sizeOf3
  v3 := Tryz.zeroValue3
  t4 := Tryz.underlying4
  a4 := Tryz.isAgg4
  z4 := Tryz.sizeOf4
  v4 := Tryz.zeroValue4
  t5 := Tryz.underlying5
  a5 := Tryz.isAgg5
  z5 := Tryz.sizeOf5
  v5 := Tryz.zeroValue5
  t9 := Tryz.underlying9
  a9 := Tryz.isAgg9
  z9 := Tryz.sizeOf9
  v9 := Tryz.zeroValue9
  t28 := Tryz.underlying55
  a28 := Tryz.isAgg55
  z28 := Tryz.sizeOf55
  v28 := Tryz.zeroValue55
  t46 := Tryz.underlying130
  a46 := Tryz.isAgg130
  z46 := Tryz.sizeOf130
  v46 := Tryz.zeroValue130
  t51 := Tryz.underlying182
  a51 := Tryz.isAgg182
  z51 := Tryz.sizeOf182
  v51 := Tryz.zeroValue182
  t53 := Tryz.underlying184
  a53 := Tryz.isAgg184
  z53 := Tryz.sizeOf184
  v53 := Tryz.zeroValue184
  t131 := Tryz.underlying72
  a131 := Tryz.isAgg72
  z131 := Tryz.sizeOf72
  v131 := Tryz.zeroValue72
  t182 := Tryz.underlying175
  a182 := Tryz.isAgg175
  z182 := Tryz.sizeOf175
  v182 := Tryz.zeroValue175
  t183 := Tryz.underlying176
  a183 := Tryz.isAgg176
  z183 := Tryz.sizeOf176
  v183 := Tryz.zeroValue176
  t218 := Tryz.underlying191
  a218 := Tryz.isAgg191
  z218 := Tryz.sizeOf191
  v218 := Tryz.zeroValue191
  t222 := Tryz.underlying195
  a222 := Tryz.isAgg195
  z222 := Tryz.sizeOf195
  v222 := Tryz.zeroValue195
  t228 := Tryz.underlying199
  a228 := Tryz.isAgg199
  z228 := Tryz.sizeOf199
  v228 := Tryz.zeroValue199
  t229 := Tryz.underlying92
  a229 := Tryz.isAgg92
  z229 := Tryz.sizeOf92
  v229 := Tryz.zeroValue92 }
def Tryz.clone_span_ren : Go.Shelf.Ren := ⟨fun | 41 => 105 | n => n, fun | 22 => 69 | 23 => 86 | 4 => 4 | n => n, fun | n => n⟩
theorem Tryz.clone_span : Go.Proofs.SlLaysE0.n41 Tryz.prog Tryz.clone_span_ren := {
  mixed := by kernel_rfl
  f41 := ⟨Tryz.f105.name, by decide, Tryz.func105.trans (congrArg some (by kernel_rfl))⟩
  t4 := Tryz.underlying4
  a4 := Tryz.isAgg4
  z4 := Tryz.sizeOf4
  v4 := Tryz.zeroValue4
  t22 := Tryz.underlying69
  a22 := Tryz.isAgg69
  z22 := Tryz.sizeOf69
  v22 := Tryz.zeroValue69 }
def Tryz.sort_span_ren : Go.Shelf.Ren := ⟨fun | 6 => 106 | 15 => 110 | 14 => 116 | 28 => 126 | 29 => 127 | 20 => 130 | 21 => 131 | 22 => 132 | 23 => 133 | 24 => 134 | 25 => 135 | 26 => 136 | 27 => 137 | 46 => 144 | 47 => 139 | 48 => 140 | 49 => 145 | 50 => 146 | 57 => 148 | n => n, fun | 22 => 69 | 24 => 86 | 25 => 165 | 3 => 3 | 39 => 130 | 0 => 0 | 53 => 182 | 55 => 184 | 4 => 4 | 46 => 176 | 45 => 175 | 50 => 72 | 5 => 5 | 9 => 9 | 66 => 191 | 70 => 195 | 76 => 199 | 77 => 92 | n => n, fun | n => n⟩
theorem Tryz.sort_span : Go.Proofs.SlLaysF0.n6 Tryz.prog Tryz.sort_span_ren := {
  mixed := by kernel_rfl
  f6 := ⟨Tryz.f106.name, by decide, Tryz.func106.trans (congrArg some (by kernel_rfl))⟩
  f14 := ⟨Tryz.f116.name, by decide, Tryz.func116.trans (congrArg some (by kernel_rfl))⟩
  f15 := Tryz.func110.trans (congrArg some (by kernel_rfl))
  f20 := ⟨Tryz.f130.name, by decide, Tryz.func130.trans (congrArg some (by kernel_rfl))⟩
  f21 := ⟨Tryz.f131.name, by decide, Tryz.func131.trans (congrArg some (by kernel_rfl))⟩
  f22 := ⟨Tryz.f132.name, by decide, Tryz.func132.trans (congrArg some (by kernel_rfl))⟩
  f23 := ⟨Tryz.f133.name, by decide, Tryz.func133.trans (congrArg some (by kernel_rfl))⟩
  f24 := ⟨Tryz.f134.name, by decide, Tryz.func134.trans (congrArg some (by kernel_rfl))⟩
  f25 := ⟨Tryz.f135.name, by decide, Tryz.func135.trans (congrArg some (by kernel_rfl))⟩
  f26 := ⟨Tryz.f136.name, by decide, Tryz.func136.trans (congrArg some (by kernel_rfl))⟩
  f27 := ⟨Tryz.f137.name, by decide, Tryz.func137.trans (congrArg some (by kernel_rfl))⟩
  f28 := Tryz.func126.trans (congrArg some (by kernel_rfl))
  f29 := Tryz.func127.trans (congrArg some (by kernel_rfl))
  f46 := ⟨Tryz.f144.name, by decide, Tryz.func144.trans (congrArg some (by kernel_rfl))⟩
  f47 := Tryz.func139.trans (congrArg some (by kernel_rfl))
  f48 := Tryz.func140.trans (congrArg some (by kernel_rfl))
  f49 := ⟨Tryz.f145.name, by decide, Tryz.func145.trans (congrArg some (by kernel_rfl))⟩
  f50 := ⟨Tryz.f146.name, by decide, Tryz.func146.trans (congrArg some (by kernel_rfl))⟩
  f57 := ⟨Tryz.f148.name, by decide, Tryz.func148.trans (congrArg some (by kernel_rfl))⟩
  t0 := Tryz.underlying0
  a0 := Tryz.isAgg0
  z0 := Tryz.sizeOf0
  v0 := Tryz.zeroValue0
  t3 := Tryz.underlying3
  a3 := Tryz.isAgg3
  z3 := Tryz.sizeOf3
  v3 := Tryz.zeroValue3
  t4 := Tryz.underlying4
  a4 := Tryz.isAgg4
  z4 := Tryz.sizeOf4
  v4 := Tryz.zeroValue4
  t5 := Tryz.underlying5
  a5 := Tryz.isAgg5
  z5 := Tryz.sizeOf5
  v5 := Tryz.zeroValue5
  t9 := Tryz.underlying9
  a9 := Tryz.isAgg9
  z9 := Tryz.sizeOf9
  v9 := Tryz.zeroValue9
  t22 := Tryz.underlying69
  a22 := Tryz.isAgg69
  z22 := Tryz.sizeOf69
  v22 := Tryz.zeroValue69
  t25 := Tryz.underlying165
  a25 := Tryz.isAgg165
  z25 := Tryz.sizeOf165
  v25 := Tryz.zeroValue165
  t39 := Tryz.underlying130
  a39 := Tryz.isAgg130
  z39 := Tryz.sizeOf130
  v39 := Tryz.zeroValue130
  t45 := Tryz.underlying175
  a45 := Tryz.isAgg175
  z45 := Tryz.sizeOf175
  v45 := Tryz.zeroValue175
  t46 := Tryz.underlying176
  a46 := Tryz.isAgg176
  z46 := Tryz.sizeOf176
  v46 := Tryz.zeroValue176
  t50 := Tryz.underlying72
  a50 := Tryz.isAgg72
  z50 := Tryz.sizeOf72
  v50 := Tryz.zeroValue72
  t53 := Tryz.underlying182
  a53 := Tryz.isAgg182
  z53 := Tryz.sizeOf182
  v53 := Tryz.zeroValue182
  t55 := Tryz.underlying184
  a55 := Tryz.isAgg184
  z55 := Tryz.sizeOf184
  v55 := Tryz.zeroValue184
  t66 := Tryz.underlying191
  a66 := Tryz.isAgg191
  z66 := Tryz.sizeOf191
  v66 := Tryz.zeroValue191
  t70 := Tryz.underlying195
  a70 := Tryz.isAgg195
  z70 := Tryz.sizeOf195
  v70 := Tryz.zeroValue195
  t76 := Tryz.underlying199
  a76 := Tryz.isAgg199
  z76 := Tryz.sizeOf199
  v76 := Tryz.zeroValue199
  t77 := Tryz.underlying92
  a77 := Tryz.isAgg92
  z77 := Tryz.sizeOf92
  v77 := Tryz.zeroValue92 }
def Tryz.grow_span_ren : Go.Shelf.Ren := ⟨fun | 4 => 108 | n => n, fun | 22 => 69 | 25 => 86 | 3 => 3 | 4 => 4 | 9 => 9 | 20 => 20 | 0 => 0 | 2 => 3 | n => n, fun | n => n⟩
theorem Tryz.grow_span : Go.Proofs.Lays8.n4 Tryz.prog Tryz.grow_span_ren := {
  mixed := by kernel_rfl
  f4 := ⟨Tryz.f108.name, by decide, Tryz.func108.trans (congrArg some (by kernel_rfl))⟩
  t0 := Tryz.underlying0
  a0 := Tryz.isAgg0
  z0 := Tryz.sizeOf0
  v0 := Tryz.zeroValue0
  t3 := Tryz.underlying3
  a3 := Tryz.isAgg3
  z3 := Tryz.sizeOf3
  v3 := Tryz.zeroValue3
  t4 := Tryz.underlying4
  a4 := Tryz.isAgg4
  z4 := Tryz.sizeOf4
  v4 := Tryz.zeroValue4
  t9 := Tryz.underlying9
  a9 := Tryz.isAgg9
  z9 := Tryz.sizeOf9
  v9 := Tryz.zeroValue9
  t20 := Tryz.underlying20
  a20 := Tryz.isAgg20
  z20 := Tryz.sizeOf20
  v20 := Tryz.zeroValue20
  t22 := Tryz.underlying69
  a22 := Tryz.isAgg69
  z22 := Tryz.sizeOf69
  v22 := Tryz.zeroValue69 }
end Go.Proofs
namespace Go.AM
open Go Go.Proofs
noncomputable section
abbrev R_u100 : Type := List (T15).T
def res_u100 (r : R_u100) : AV := .own 0 0
def bo_u100 (s_ : List (T15).T) (r : R_u100) : List (Nat × Blk) := [(0, .row 86 T15 r)]
def args_u100 (s_ : List (T15).T) : List AV := [.r (.ro T15 s_)]
def bin_u100 (s_ : List (T15).T) : List Blk := []
abbrev C_u100 (s_ : List (T15).T) (r : R_u100) : Prop := CC Tryz.prog 105 (args_u100 s_) (bin_u100 s_) (res_u100 r) (bo_u100 s_ r)
def f_u100 (k : Nat) (s_ : List (T15).T) : Option R_u100 := if s_.length * 16 ≤ 140737488355328 then some s_ else none
def v_u100 (k : Nat) (s_ : List (T15).T) : R_u100 := (f_u100 k s_).getD []
def ke_u100 (k : Nat) : Ke := (105, fun xs => match xs with
  | [_] => some [false]
  | _ => none, fun xs bs => match xs, bs with
  | [.r (.ro ts__ qs_)], [] => (castL ts__ T15 qs_).bind fun s_ => some (.one (res_u100 (v_u100 k s_), bo_u100 s_ (v_u100 k s_)))
  | _, _ => none)
theorem of_u100 (k : Nat) (s_ : List (T15).T) (r : R_u100) (h : f_u100 k s_ = some r) : CC Tryz.prog 105 (args_u100 s_) (bin_u100 s_) (res_u100 r) (bo_u100 s_ r) := by
  unfold f_u100 at h
  split at h
  · rename_i q
    cases h
    exact cc_clone' (τ := T15) Tryz.clone_span (by kernel_rfl) Tryz.sizeOf86 ⟨Tryz.f105, _, Tryz.func105, rfl, by kernel_rfl⟩ s_ q
  · cases h
theorem cc_u100 {k : Nat} {s_ : List (T15).T} (h : (f_u100 k s_).isSome = true) : C_u100 s_ (v_u100 k s_) := ccG (Φ := C_u100 s_) h (of_u100 k s_)
abbrev R_u103 : Type := List (T15).T
def res_u103 (r : R_u103) : AV := .tup []
def bo_u103 (x_ : List (T15).T) (r : R_u103) : List (Nat × Blk) := [(0, .row 86 T15 r)]
def args_u103 (x_ : List (T15).T) : List AV := [.own 0 0, .r (.v (.func (.func 107) #[] #[]))]
def bin_u103 (x_ : List (T15).T) : List Blk := [.row 86 T15 x_]
abbrev C_u103 (x_ : List (T15).T) (r : R_u103) : Prop := CC Tryz.prog 106 (args_u103 x_) (bin_u103 x_) (res_u103 r) (bo_u103 x_ r)
theorem cmp_ (x y : SPair) (W : World) : Calls Tryz.prog 107 #[.agg #[.int .i64 x.1.1, .int .i64 x.1.2], .agg #[.int .i64 y.1.1, .int .i64 y.1.2]] W fun e w' => e = .returned (.int .i64 (spCmp x y)) ∧ ∃ q os', w' = Sort.grow (W.drewN q) os' := by
  have hw : RowKit.wrap64 (x.1.1 - y.1.1) = spCmp x y := by
    have h1 := x.2; have h2 := y.2
    unfold SmallI at h1 h2
    unfold RowKit.wrap64 spCmp
    omega
  go_enter Tryz.func107, Tryz.ntmps107
  go_wp2
  go_ret
  exact ⟨by rw [← hw]; rfl, 0, _, by rw [Sort.alloc_eq_grow, Sort.alloc_eq_grow, Sort.grow_grow]; rfl⟩
def f_u103 (k : Nat) (x_ : List (T15).T) : Option R_u103 := if (x_.all fun x => decide (SmallI x.1)) = true ∧ x_.length < 4611686018427387904 then some (sortSP x_) else none
def v_u103 (k : Nat) (x_ : List (T15).T) : R_u103 := (f_u103 k x_).getD []
def ke_u103 (k : Nat) : Ke := (106, fun xs => match xs with
  | [.own _ _, .r (.v (.func (.func 107) _ _))] => some [true, false]
  | _ => none, fun xs bs => match xs, bs with
  | [.own 0 0, .r (.v (.func (.func 107) _ _))], [.row 86 tx__ qx_] => (castL tx__ T15 qx_).bind fun x_ => some (.one (res_u103 (v_u103 k x_), bo_u103 x_ (v_u103 k x_)))
  | _, _ => none)
theorem of_u103 (k : Nat) (x_ : List (T15).T) (r : R_u103) (h : f_u103 k x_ = some r) : CC Tryz.prog 106 (args_u103 x_) (bin_u103 x_) (res_u103 r) (bo_u103 x_ r) := by
  unfold f_u103 at h
  split at h
  · rename_i q
    cases h
    have h1 : (toSP x_).map (·.1) = x_ := toSP_val x_ fun x hx => by simpa using List.all_eq_true.1 q.1 x hx
    have hl : (toSP x_).toArray.size = x_.length := by
      have := congrArg List.length h1
      simpa using this
    have := cc_sortFunc (P := Tryz.prog) Tryz.sort_span ⟨Tryz.f106, _, Tryz.func106, rfl, by kernel_rfl⟩ (τ := T15) rfl (by decide) Tryz.isAgg86 Tryz.sizeOf86 86 (α := SPair) (fun x => x.1) spCmp spCmp_swo 107 (enters_of Tryz.func107 (by kernel_rfl) rfl) (fun blk n w => fun _ _ _ _ x y => cmp_ x y _) (toSP x_).toArray (by rw [hl]; exact q.2) (fun x v hv => by simp [vals] at hv; rcases hv with rfl | rfl <;> rfl)
    have e2 : (toSP x_).toArray.toList.map (fun x : SPair => x.1) = x_ := h1
    rw [e2] at this
    exact this
  · cases h
theorem cc_u103 {k : Nat} {x_ : List (T15).T} (h : (f_u103 k x_).isSome = true) : C_u103 x_ (v_u103 k x_) := ccG (Φ := C_u103 x_) h (of_u103 k x_)
abbrev R_u111 : Type := Int
def res_u111 (r : R_u111) : AV := .r (.v (.int .i64 r))
def bo_u111 (a_ : T15.T) (b_ : T15.T) (r : R_u111) : List (Nat × Blk) := []
def f_u111 (k : Nat) (a_ : T15.T) (b_ : T15.T) : Option R_u111 :=
  some (IntKind.i64.wrap (a_.1 - b_.1))
def v_u111 (k : Nat) (a_ : T15.T) (b_ : T15.T) : R_u111 := (f_u111 k a_ b_).getD 0
def ke_u111 (k : Nat) : Ke := (107, fun xs => match xs with
  | [_, _] => some [false, false]
  | _ => none, fun xs bs => match xs, bs with
  | [.agg qa_, .agg qb_], [] => (decS [] T15 qa_).bind fun a_ => (decS [] T15 qb_).bind fun b_ => some (.one (res_u111 (v_u111 k a_ b_), bo_u111 a_ b_ (v_u111 k a_ b_)))
  | _, _ => none)
end
end Go.AM
namespace Go.AM
open Go Go.Proofs
noncomputable section
abbrev R_u110 : Type := List (T15).T
def res_u110 (r : R_u110) : AV := .r (.ro T15 r)
def bo_u110 (l_ : List (T15).T) (r : R_u110) : List (Nat × Blk) := []
def args_u110 (l_ : List (T15).T) : List AV := [.r (.ro T15 l_)]
def bin_u110 (l_ : List (T15).T) : List Blk := []
abbrev C_u110 (l_ : List (T15).T) (r : R_u110) : Prop := CC Tryz.prog 92 (args_u110 l_) (bin_u110 l_) (res_u110 r) (bo_u110 l_ r)
def st_u110_6 (y0 : Int) (y1 : Int) (y2 : List (T15).T) (y3 : T15.T) (y4 : List (T15).T) : St := ⟨mkS 66 [(3, .own 1000000 0), (4, .ptr 1000001 0 0), (12, .own 1000002 0), (13, .r (.v (.int .i64 y0))), (14, .r (.v (.int .i64 y1)))], [(1000000, 0, .row 86 T15 y2), (1000001, 0, .var 86 (rvs (enc T15 y3))), (1000002, 0, .row 86 T15 y4)]⟩
def f_u110_6 (k : Nat) : Nat → Int → Int → List (T15).T → T15.T → List (T15).T → Option R_u110
  | 0, _, _, _, _, _ => none
  | j + 1, y0, y1, y2, y3, y4 =>
  bif (decide (y1 < y0)) then
  if (0 ≤ y1) ∧ (y1 < (↑y4.length : Int)) then
  bif (decide ((y4.getD y1.toNat T15.dflt).1 ≥ (y4.getD y1.toNat T15.dflt).2) || eqT T15 (y4.getD y1.toNat T15.dflt) y3) then
  f_u110_6 k j y0 ((IntKind.i64.wrap (y1 + 1))) y2 ((y4.getD y1.toNat T15.dflt)) y4
  else
  if (decide ((↑y2.length : Int) > (0 : Int)) = true → (0 : Int) ≤ IntKind.i64.wrap ((↑y2.length : Int) - (1 : Int))) ∧ (decide ((↑y2.length : Int) > (0 : Int)) = true → IntKind.i64.wrap ((↑y2.length : Int) - (1 : Int)) < (↑y2.length : Int)) then
  bif (decide ((↑y2.length : Int) > (0 : Int)) && decide ((y4.getD y1.toNat T15.dflt).1 ≤ (y2.getD (IntKind.i64.wrap ((↑y2.length : Int) - (1 : Int))).toNat T15.dflt).2)) then
  if ((0 : Int) ≤ IntKind.i64.wrap ((↑y2.length : Int) - (1 : Int))) ∧ (IntKind.i64.wrap ((↑y2.length : Int) - (1 : Int)) < (↑y2.length : Int)) ∧ ((0 : Int) ≤ IntKind.i64.wrap ((↑y2.length : Int) - (1 : Int))) ∧ (IntKind.i64.wrap ((↑y2.length : Int) - (1 : Int)) < (↑y2.length : Int)) then
  f_u110_6 k j y0 ((IntKind.i64.wrap (y1 + 1))) ((y2.set (IntKind.i64.wrap ((↑y2.length : Int) - 1)).toNat ((y2.getD (IntKind.i64.wrap ((↑y2.length : Int) - 1)).toNat T15.dflt).1, if (y4.getD y1.toNat T15.dflt).2 > (y2.getD (IntKind.i64.wrap ((↑y2.length : Int) - 1)).toNat T15.dflt).2 then (y4.getD y1.toNat T15.dflt).2 else (y2.getD (IntKind.i64.wrap ((↑y2.length : Int) - 1)).toNat T15.dflt).2))) ((y4.getD y1.toNat T15.dflt)) y4
  else none
  else
  if ((y2.length + [y4.getD y1.toNat T15.dflt].length) * (16 : Nat) ≤ (140737488355328 : Nat)) then
  f_u110_6 k j y0 ((IntKind.i64.wrap (y1 + 1))) ((y2 ++ [y4.getD y1.toNat T15.dflt])) ((y4.getD y1.toNat T15.dflt)) y4
  else none
  else none
  else none
  else
  some y2
def f_u110 (k : Nat) (l_ : List (T15).T) : Option R_u110 :=
  if ((f_u100 k l_).isSome = true) then
  if ((f_u103 k (v_u100 k l_)).isSome = true) then
  f_u110_6 k k ((↑ (List.length (v_u103 k (v_u100 k l_))) : Int)) 0 ([]) ((0, 0)) ((v_u103 k (v_u100 k l_)))
  else none
  else none
def v_u110 (k : Nat) (l_ : List (T15).T) : R_u110 := (f_u110 k l_).getD []
def ke_u110 (k : Nat) : Ke := (92, fun xs => match xs with
  | [_] => some [false]
  | _ => none, fun xs bs => match xs, bs with
  | [.r (.ro tl__ ql_)], [] => (castL tl__ T15 ql_).bind fun l_ => some (.one (res_u110 (v_u110 k l_), bo_u110 l_ (v_u110 k l_)))
  | _, _ => none)
def K_u110 (k : Nat) : Calld := mkK [ke_u100 k, ke_u103 k, ke_u111 k]
def cs_u110 : List (Nat × List Cmd) := [(6, [.row 3 86 T15, .autoB [3, 4, 12, 13, 14] false []])]
abbrev E_u110 (l_ : List (T15).T) (todo : List Item) (st : St) (o : Option R_u110) : Prop := ∀ r, o = some r → Ev Tryz.prog Tryz.f92 0 todo st (res_u110 r) (bo_u110 l_ r)
theorem ev_u110 (k : Nat) (l_ : List (T15).T) : ∀ j, (∀ (y0 : Int) (y1 : Int) (y2 : List (T15).T) (y3 : T15.T) (y4 : List (T15).T), E_u110 l_ (placeAt Tryz.f92 6) (st_u110_6 y0 y1 y2 y3 y4) (f_u110_6 k j y0 y1 y2 y3 y4))
  | 0 => fun _ _ _ _ _ _ h => (nomatch h)
  | j + 1 => by
    have ih := @ev_u110 k l_ j
    · intro y0 y1 y2 y3 y4 r h
      rw [f_u110_6] at h
      exact go (K_u110 k) [] cs_u110 [.frz 2 false (RTy.list T15), .autoB [2] true []] (gT h (fun c h => gN2 h fun h => gT h (fun c h => gC h 6 (ih _ _ _ _ _ _)) fun c h => gN2 h fun h => gT h (fun c h => gN h (fun q => conjC q.1 (conjC q.2.1 (conjC q.2.2.1 (conjC q.2.2.2 conj0)))) fun h => gC h 6 (ih _ _ _ _ _ _)) fun c h => gN1 h id fun h => gC h 6 (ih _ _ _ _ _ _)) fun c h => gL h) (by kernel_rfl)
theorem of_u110 (k : Nat) (l_ : List (T15).T) (r : R_u110) (h : f_u110 k l_ = some r) : C_u110 l_ r := by
  refine CC.of (fn := Tryz.f92) (by kernel_rfl) (by kernel_rfl) (by kernel_rfl) (by kernel_rfl) ?_
  unfold f_u110 at h
  exact go (K_u110 k) [] cs_u110 [.frz 2 false (RTy.list T15), .autoB [2] true []] (gN1 h (fun q => cc_u100 q) fun h => gN1 h (fun q => cc_u103 q) fun h => gC h 6 ((ev_u110 k l_ k) _ _ _ _ _ _)) (by kernel_rfl)
theorem cc_u110 {k : Nat} {l_ : List (T15).T} (h : (f_u110 k l_).isSome = true) : C_u110 l_ (v_u110 k l_) := ccG (Φ := C_u110 l_) h (of_u110 k l_)
abbrev R_u102 : Type := List (T15).T
def res_u102 (r : R_u102) : AV := .own 0 0
def bo_u102 (n_ : Int) (r : R_u102) : List (Nat × Blk) := [(0, .row 86 T15 r)]
def args_u102 (n_ : Int) : List AV := [.r (.v (Value.slice none 0 0)), .r (.v (.int .i64 n_))]
def bin_u102 (n_ : Int) : List Blk := []
abbrev C_u102 (n_ : Int) (r : R_u102) : Prop := CC Tryz.prog 108 (args_u102 n_) (bin_u102 n_) (res_u102 r) (bo_u102 n_ r)
def f_u102 (k : Nat) (n_ : Int) : Option R_u102 := if 0 ≤ n_ ∧ n_.toNat * 16 ≤ 140737488355328 then some [] else none
def v_u102 (k : Nat) (n_ : Int) : R_u102 := (f_u102 k n_).getD []
def ke_u102 (k : Nat) : Ke := (108, fun xs => match xs with
  | [.r (.v (Value.slice none 0 0)), _] => some [true, false]
  | _ => none, fun xs bs => match xs, bs with
  | [.r (.v (Value.slice none 0 0)), .r (.v (.int .i64 n_))], [] => some (.one (res_u102 (v_u102 k n_), bo_u102 n_ (v_u102 k n_)))
  | _, _ => none)
theorem of_u102 (k : Nat) (n_ : Int) (r : R_u102) (h : f_u102 k n_ = some r) : CC Tryz.prog 108 (args_u102 n_) (bin_u102 n_) (res_u102 r) (bo_u102 n_ r) := by
  unfold f_u102 at h
  split at h
  · rename_i q
    cases h
    exact cc_grow' Tryz.grow_span ⟨Tryz.f108, _, Tryz.func108, rfl, by kernel_rfl⟩ T15 (by kernel_rfl) n_ q.1 q.2
  · cases h
theorem cc_u102 {k : Nat} {n_ : Int} (h : (f_u102 k n_).isSome = true) : C_u102 n_ (v_u102 k n_) := ccG (Φ := C_u102 n_) h (of_u102 k n_)
abbrev R_u101 : Type := List (T15).T
def res_u101 (r : R_u101) : AV := .own 0 0
def bo_u101 (slices_ : List (RTy.list T15).T) (r : R_u101) : List (Nat × Blk) := [(0, .row 86 T15 r)]
def args_u101 (slices_ : List (RTy.list T15).T) : List AV := [.r (.ro (RTy.list T15) slices_)]
def bin_u101 (slices_ : List (RTy.list T15).T) : List Blk := []
abbrev C_u101 (slices_ : List (RTy.list T15).T) (r : R_u101) : Prop := CC Tryz.prog 93 (args_u101 slices_) (bin_u101 slices_) (res_u101 r) (bo_u101 slices_ r)
def st_u101_3 (y0 : List (T15.list).T) (y1 : Int) (y2 : List (T15.list).T) (y3 : Int) (y4 : Int) : St := ⟨mkS 36 [(0, .r (.ro T15.list y0)), (3, .r (.v (.int .i64 y1))), (9, .r (.ro T15.list y2)), (10, .r (.v (.int .i64 y3))), (11, .r (.v (.int .i64 y4)))], []⟩
def st_u101_11 (y0 : List (T15.list).T) (y1 : Int) (y2 : Int) (y3 : List (T15).T) : St := ⟨mkS 36 [(6, .own 1000000 0), (25, .r (.ro T15.list y0)), (26, .r (.v (.int .i64 y1))), (27, .r (.v (.int .i64 y2)))], [(1000000, 0, .row 86 T15 y3)]⟩
mutual
def f_u101_3 (k : Nat) : Nat → List (T15.list).T → Int → List (T15.list).T → Int → Int → Option R_u101
  | 0, _, _, _, _, _ => none
  | j + 1, y0, y1, y2, y3, y4 =>
  bif (decide (y4 < y3)) then
  if (0 ≤ y4) ∧ (y4 < (↑y2.length : Int)) then
  bif (decide (IntKind.i64.wrap (y1 + (↑ (List.length (y2.getD y4.toNat T15.list.dflt)) : Int)) < (0 : Int))) then
  none
  else
  f_u101_3 k j y0 ((IntKind.i64.wrap (y1 + (↑ (List.length (y2.getD y4.toNat T15.list.dflt)) : Int)))) y2 y3 ((IntKind.i64.wrap (y4 + 1)))
  else none
  else
  if ((f_u102 k y1).isSome = true) then
  f_u101_11 k j y0 ((↑y0.length : Int)) 0 ((v_u102 k y1))
  else none
def f_u101_11 (k : Nat) : Nat → List (T15.list).T → Int → Int → List (T15).T → Option R_u101
  | 0, _, _, _, _ => none
  | j + 1, y0, y1, y2, y3 =>
  bif (decide (y2 < y1)) then
  if (0 ≤ y2) ∧ (y2 < (↑y0.length : Int)) then
  if ((y3.length + List.length (y0.getD y2.toNat T15.list.dflt)) * (16 : Nat) ≤ (140737488355328 : Nat)) then
  f_u101_11 k j y0 y1 ((IntKind.i64.wrap (y2 + 1))) ((y3 ++ y0.getD y2.toNat T15.list.dflt))
  else none
  else none
  else
  some y3
end
def f_u101 (k : Nat) (slices_ : List (RTy.list T15).T) : Option R_u101 :=
  f_u101_3 k k slices_ 0 slices_ ((↑slices_.length : Int)) 0
def v_u101 (k : Nat) (slices_ : List (RTy.list T15).T) : R_u101 := (f_u101 k slices_).getD []
def ke_u101 (k : Nat) : Ke := (93, fun xs => match xs with
  | [_] => some [false]
  | _ => none, fun xs bs => match xs, bs with
  | [.r (.ro tslices__ qslices_)], [] => (castL tslices__ (RTy.list T15) qslices_).bind fun slices_ => some (.one (res_u101 (v_u101 k slices_), bo_u101 slices_ (v_u101 k slices_)))
  | _, _ => none)
def cs_u101 : List (Nat × List Cmd) := [(3, [.autoB [0, 3, 9, 10, 11] false []]), (11, [.autoB [6, 25, 26, 27] false []])]
abbrev E_u101 (slices_ : List (RTy.list T15).T) (todo : List Item) (st : St) (o : Option R_u101) : Prop := ∀ r, o = some r → Ev Tryz.prog Tryz.f93 0 todo st (res_u101 r) (bo_u101 slices_ r)
theorem ev_u101 (k : Nat) (slices_ : List (RTy.list T15).T) : ∀ j, (∀ (y0 : List (T15.list).T) (y1 : Int) (y2 : List (T15.list).T) (y3 : Int) (y4 : Int), E_u101 slices_ (placeAt Tryz.f93 3) (st_u101_3 y0 y1 y2 y3 y4) (f_u101_3 k j y0 y1 y2 y3 y4)) ∧ (∀ (y0 : List (T15.list).T) (y1 : Int) (y2 : Int) (y3 : List (T15).T), E_u101 slices_ (placeAt Tryz.f93 11) (st_u101_11 y0 y1 y2 y3) (f_u101_11 k j y0 y1 y2 y3))
  | 0 => ⟨fun _ _ _ _ _ _ h => (nomatch h), fun _ _ _ _ _ h => (nomatch h)⟩
  | j + 1 => by
    have ih := @ev_u101 k slices_ j
    refine ⟨?_, ?_⟩
    · intro y0 y1 y2 y3 y4 r h
      rw [f_u101_3] at h
      exact go (mkK [ke_u102 k]) [] cs_u101 [.autoB [2] true []] (gT h (fun c h => gN2 h fun h => gT h (fun c h => gZ h (.stuck 5000)) fun c h => gC h 3 (ih.1 _ _ _ _ _ _)) fun c h => gN1 h (fun q => cc_u102 q) fun h => gC h 11 (ih.2 _ _ _ _ _)) (by kernel_rfl)
    · intro y0 y1 y2 y3 r h
      rw [f_u101_11] at h
      exact go (mkK [ke_u102 k]) [] cs_u101 [.autoB [2] true []] (gT h (fun c h => gN2 h fun h => gN1 h id fun h => gC h 11 (ih.2 _ _ _ _ _)) fun c h => gL h) (by kernel_rfl)
theorem of_u101 (k : Nat) (slices_ : List (RTy.list T15).T) (r : R_u101) (h : f_u101 k slices_ = some r) : C_u101 slices_ r := by
  refine CC.of (fn := Tryz.f93) (by kernel_rfl) (by kernel_rfl) (by kernel_rfl) (by kernel_rfl) ?_
  unfold f_u101 at h
  exact go (mkK [ke_u102 k]) [] cs_u101 [.autoB [2] true []] (gC h 3 ((ev_u101 k slices_ k).1 _ _ _ _ _ _)) (by kernel_rfl)
theorem cc_u101 {k : Nat} {slices_ : List (RTy.list T15).T} (h : (f_u101 k slices_).isSome = true) : C_u101 slices_ (v_u101 k slices_) := ccG (Φ := C_u101 slices_) h (of_u101 k slices_)
abbrev R_u104 : Type := List Int
def res_u104 (r : R_u104) : AV := .tup []
def bo_u104 (x_ : List (I).T) (r : R_u104) : List (Nat × Blk) := [(0, .row 3 (RTy.int .i64) r)]
def args_u104 (x_ : List (I).T) : List AV := [.own 0 0]
def bin_u104 (x_ : List (I).T) : List Blk := [.row 3 I x_]
abbrev C_u104 (x_ : List (I).T) (r : R_u104) : Prop := CC Tryz.prog 94 (args_u104 x_) (bin_u104 x_) (res_u104 r) (bo_u104 x_ r)
def f_u104 (k : Nat) (x_ : List Int) : Option R_u104 := if x_.length < 4611686018427387904 then some (x_.mergeSort fun x y => decide (x ≤ y)) else none
def v_u104 (k : Nat) (x_ : List (I).T) : R_u104 := (f_u104 k x_).getD []
def ke_u104 (k : Nat) : Ke := (94, fun xs => match xs with
  | [.own _ _] => some [true]
  | _ => none, fun xs bs => match xs, bs with
  | [.own 0 0], [.row 3 tx__ qx_] => (castL tx__ I qx_).bind fun x_ => some (.one (res_u104 (v_u104 k x_), bo_u104 x_ (v_u104 k x_)))
  | _, _ => none)
theorem of_u104 (k : Nat) (x_ : List Int) (r : R_u104) (h : f_u104 k x_ = some r) : CC Tryz.prog 94 (args_u104 x_) (bin_u104 x_) (res_u104 r) (bo_u104 x_ r) := by
  unfold f_u104 at h
  split at h
  · rename_i q
    cases h
    exact cc_sort_int Tryz.sort_int ⟨Tryz.f94, _, Tryz.func94, rfl, by kernel_rfl⟩ 3 x_ q
  · cases h
theorem cc_u104 {k : Nat} {x_ : List (I).T} (h : (f_u104 k x_).isSome = true) : C_u104 x_ (v_u104 k x_) := ccG (Φ := C_u104 x_) h (of_u104 k x_)
abbrev R_u112 : Type := List (T15).T × Int
def res_u112 (r : R_u112) : AV := .tup [.r (.ro T15 r.1), .r (.v (.int .i64 r.2))]
def bo_u112 (t_ : List (T15).T) (o_ : List (T15).T) (r : R_u112) : List (Nat × Blk) := []
def args_u112 (t_ : List (T15).T) (o_ : List (T15).T) : List AV := [.r (.ro T15 t_), .r (.ro T15 o_), .r (.v (.func (.func 68) #[] #[]))]
def bin_u112 (t_ : List (T15).T) (o_ : List (T15).T) : List Blk := []
abbrev C_u112 (t_ : List (T15).T) (o_ : List (T15).T) (r : R_u112) : Prop := CC Tryz.prog 67 (args_u112 t_ o_) (bin_u112 t_ o_) (res_u112 r) (bo_u112 t_ o_ r)
def st_u112_10 (y0 : List (T15).T) (y1 : List (T15).T) (y2 : Int) (y3 : Int) (y4 : List (I).T) (y5 : List (T15).T) : St := ⟨mkS 147 [(0, .r (.ro T15 y0)), (1, .r (.ro T15 y1)), (2, .r (.v (Value.func (Fn.func 68) #[] #[]))), (10, .own 1000000 0), (35, .own 1000001 0), (36, .r (.v (.int .i64 y2))), (37, .r (.v (.int .i64 y3)))], [(1000000, 0, .row 3 I y4), (1000001, 0, .row 86 T15 y5)]⟩
def st_u112_18 (y0 : List (T15).T) (y1 : List (T15).T) (y2 : Int) (y3 : Int) (y4 : Int) (y5 : Int) (y6 : List (RTy.int IntKind.i64).T) (y7 : List (T15).T) : St := ⟨mkS 147 [(0, .r (.ro T15 y0)), (1, .r (.ro T15 y1)), (2, .r (.v (Value.func (Fn.func 68) #[] #[]))), (10, .own 1000000 0), (13, .own 1000001 0), (14, .r (.v (.int .i64 y2))), (15, .r (.v (.int .i64 y3))), (51, .own 1000000 0), (52, .r (.v (.int .i64 y4))), (53, .r (.v (.int .i64 y5)))], [(1000000, 0, .row 3 ((RTy.int IntKind.i64)) y6), (1000001, 0, .row 86 T15 y7)]⟩
def st_u112_20 (y0 : List (T15).T) (y1 : List (T15).T) (y2 : Int) (y3 : Int) (y4 : Int) (y5 : Int) (y6 : Int) (y7 : Int) (y8 : List (RTy.int IntKind.i64).T) (y9 : List (T15).T) : St := ⟨mkS 147 [(0, .r (.ro T15 y0)), (1, .r (.ro T15 y1)), (2, .r (.v (Value.func (Fn.func 68) #[] #[]))), (10, .own 1000000 0), (13, .own 1000001 0), (14, .r (.v (.int .i64 y2))), (15, .r (.v (.int .i64 y3))), (16, .r (.v (.int .i64 y4))), (17, .r (.v (.int .i64 y5))), (51, .own 1000000 0), (52, .r (.v (.int .i64 y6))), (53, .r (.v (.int .i64 y7)))], [(1000000, 0, .row 3 ((RTy.int IntKind.i64)) y8), (1000001, 0, .row 86 T15 y9)]⟩
def st_u112_22 (y0 : List (T15).T) (y1 : List (T15).T) (y2 : Int) (y3 : Int) (y4 : Int) (y5 : Int) (y6 : Int) (y7 : Int) (y8 : List (RTy.int IntKind.i64).T) (y9 : List (T15).T) : St := ⟨mkS 147 [(0, .r (.ro T15 y0)), (1, .r (.ro T15 y1)), (2, .r (.v (Value.func (Fn.func 68) #[] #[]))), (10, .own 1000000 0), (13, .own 1000001 0), (14, .r (.v (.int .i64 y2))), (15, .r (.v (.int .i64 y3))), (16, .r (.v (.int .i64 y4))), (17, .r (.v (.int .i64 y5))), (51, .own 1000000 0), (52, .r (.v (.int .i64 y6))), (53, .r (.v (.int .i64 y7)))], [(1000000, 0, .row 3 ((RTy.int IntKind.i64)) y8), (1000001, 0, .row 86 T15 y9)]⟩
def st_u112_28 (y0 : List (T15).T) : St := ⟨mkS 147 [(13, .r (.ro T15 y0))], []⟩
mutual
def f_u112_10 (k : Nat) : Nat → List (T15).T → List (T15).T → Int → Int → List (I).T → List (T15).T → Option R_u112
  | 0, _, _, _, _, _, _ => none
  | j + 1, y0, y1, y2, y3, y4, y5 =>
  bif (decide (y3 < y2)) then
  if (0 ≤ y3) ∧ (y3 < (↑y5.length : Int)) then
  if ((y4.length + [(y5.getD y3.toNat T15.dflt).1, (y5.getD y3.toNat T15.dflt).2].length) * (8 : Nat) ≤ (140737488355328 : Nat)) then
  f_u112_10 k j y0 y1 y2 ((IntKind.i64.wrap (y3 + 1))) ((y4 ++ [(y5.getD y3.toNat T15.dflt).1, (y5.getD y3.toNat T15.dflt).2])) y5
  else none
  else none
  else
  if ((f_u104 k y4).isSome = true) then
  f_u112_18 k j y0 y1 0 0 ((↑ (List.length (v_u104 k y4)) : Int)) 0 ((v_u104 k y4)) ([])
  else none
def f_u112_18 (k : Nat) : Nat → List (T15).T → List (T15).T → Int → Int → Int → Int → List (RTy.int IntKind.i64).T → List (T15).T → Option R_u112
  | 0, _, _, _, _, _, _, _, _ => none
  | j + 1, y0, y1, y2, y3, y4, y5, y6, y7 =>
  bif (decide (y5 < y4)) then
  if (0 ≤ y5) ∧ (y5 < (↑y6.length : Int)) then
  f_u112_20 k j y0 y1 y2 y3 y5 ((y6.getD y5.toNat (RTy.int IntKind.i64).dflt)) y4 y5 y6 y7
  else none
  else
  f_u112_28 k j y7
def f_u112_20 (k : Nat) : Nat → List (T15).T → List (T15).T → Int → Int → Int → Int → Int → Int → List (RTy.int IntKind.i64).T → List (T15).T → Option R_u112
  | 0, _, _, _, _, _, _, _, _, _, _ => none
  | j + 1, y0, y1, y2, y3, y4, y5, y6, y7, y8, y9 =>
  if (decide (y2 < (↑y0.length : Int)) = true → 0 ≤ y2) ∧ (decide (y2 < (↑y0.length : Int)) = true → y2 < (↑y0.length : Int)) then
  bif (decide (y2 < (↑y0.length : Int)) && decide ((y0.getD y2.toNat T15.dflt).2 ≤ y5)) then
  f_u112_20 k j y0 y1 ((IntKind.i64.wrap (y2 + 1))) y3 y4 y5 y6 y7 y8 y9
  else
  f_u112_22 k j y0 y1 y2 y3 y4 y5 y6 y7 y8 y9
  else none
def f_u112_22 (k : Nat) : Nat → List (T15).T → List (T15).T → Int → Int → Int → Int → Int → Int → List (RTy.int IntKind.i64).T → List (T15).T → Option R_u112
  | 0, _, _, _, _, _, _, _, _, _, _ => none
  | j + 1, y0, y1, y2, y3, y4, y5, y6, y7, y8, y9 =>
  if (decide (y3 < (↑y1.length : Int)) = true → 0 ≤ y3) ∧ (decide (y3 < (↑y1.length : Int)) = true → y3 < (↑y1.length : Int)) then
  bif (decide (y3 < (↑y1.length : Int)) && decide ((y1.getD y3.toNat T15.dflt).2 ≤ y5)) then
  f_u112_22 k j y0 y1 y2 ((IntKind.i64.wrap (y3 + 1))) y4 y5 y6 y7 y8 y9
  else
  if ((IntKind.i64.wrap (y4 + (1 : Int)) == (↑y8.length : Int)) = false → (0 : Int) ≤ IntKind.i64.wrap (y4 + (1 : Int))) ∧ ((IntKind.i64.wrap (y4 + (1 : Int)) == (↑y8.length : Int)) = false → IntKind.i64.wrap (y4 + (1 : Int)) < (↑y8.length : Int)) then
  bif (IntKind.i64.wrap (y4 + (1 : Int)) == (↑y8.length : Int) || y8.getD (IntKind.i64.wrap (y4 + (1 : Int))).toNat (RTy.int IntKind.i64).dflt == y5) then
  f_u112_18 k j y0 y1 y2 y3 y6 ((IntKind.i64.wrap (y7 + 1))) y8 y9
  else
  if (decide (y2 < (↑y0.length : Int)) = true → 0 ≤ y2) ∧ (decide (y2 < (↑y0.length : Int)) = true → y2 < (↑y0.length : Int)) ∧ (decide (y3 < (↑y1.length : Int)) = true → 0 ≤ y3) ∧ (decide (y3 < (↑y1.length : Int)) = true → y3 < (↑y1.length : Int)) ∧ ((f_u108 k (decide (y2 < (↑y0.length : Int)) && decide ((y0.getD y2.toNat T15.dflt).1 ≤ y5)) (decide (y3 < (↑y1.length : Int)) && decide ((y1.getD y3.toNat T15.dflt).1 ≤ y5))).isSome = true) then
  bif (v_u108 k (decide (y2 < (↑y0.length : Int)) && decide ((y0.getD y2.toNat T15.dflt).1 ≤ y5)) (decide (y3 < (↑y1.length : Int)) && decide ((y1.getD y3.toNat T15.dflt).1 ≤ y5))) then
  if ((0 : Int) ≤ IntKind.i64.wrap (y4 + (1 : Int))) ∧ (IntKind.i64.wrap (y4 + (1 : Int)) < (↑y8.length : Int)) ∧ ((y9.length + [(y5, y8.getD (IntKind.i64.wrap (y4 + (1 : Int))).toNat (RTy.int IntKind.i64).dflt)].length) * (16 : Nat) ≤ (140737488355328 : Nat)) then
  f_u112_18 k j y0 y1 y2 y3 y6 ((IntKind.i64.wrap (y7 + 1))) y8 ((y9 ++ [(y5, y8.getD (IntKind.i64.wrap (y4 + 1)).toNat (RTy.int IntKind.i64).dflt)]))
  else none
  else
  f_u112_18 k j y0 y1 y2 y3 y6 ((IntKind.i64.wrap (y7 + 1))) y8 y9
  else none
  else none
  else none
def f_u112_28 (k : Nat) : Nat → List (T15).T → Option R_u112
  | 0, _ => none
  | j + 1, y0 =>
  if ((f_u110 k y0).isSome = true) then
  bif (decide ((↑ (List.length (v_u110 k y0)) : Int) > (256 : Int))) then
  some (([], 8))
  else
  some ((v_u110 k y0, 0))
  else none
end
def f_u112 (k : Nat) (t_ : List (T15).T) (o_ : List (T15).T) : Option R_u112 :=
  if ((f_u106 k t_).isSome = true) then
  bif (v_u106 k t_ != (0 : Int)) then
  some (([], v_u106 k t_))
  else
  if ((f_u106 k o_).isSome = true) then
  bif (v_u106 k o_ != (0 : Int)) then
  some (([], v_u106 k o_))
  else
  if ((f_u110 k t_).isSome = true) ∧ ((f_u110 k o_).isSome = true) then
  if ((f_u101 k [v_u110 k t_, v_u110 k o_]).isSome = true) then
  f_u112_10 k k ((v_u110 k t_)) ((v_u110 k o_)) ((↑ (List.length (v_u101 k [v_u110 k t_, v_u110 k o_])) : Int)) 0 ([]) ((v_u101 k [v_u110 k t_, v_u110 k o_]))
  else none
  else none
  else none
  else none
def v_u112 (k : Nat) (t_ : List (T15).T) (o_ : List (T15).T) : R_u112 := (f_u112 k t_ o_).getD ([], 0)
def ke_u112 (k : Nat) : Ke := (67, fun xs => match xs with
  | [_, _, .r (.v (.func (.func 68) _ _))] => some [false, false, false]
  | _ => none, fun xs bs => match xs, bs with
  | [.r (.ro tt__ qt_), .r (.ro to__ qo_), .r (.v (.func (.func 68) _ _))], [] => (castL tt__ T15 qt_).bind fun t_ => (castL to__ T15 qo_).bind fun o_ => some (.one (res_u112 (v_u112 k t_ o_), bo_u112 t_ o_ (v_u112 k t_ o_)))
  | _, _ => none)
def K_u112 (k : Nat) : Calld := mkK [ke_u106 k, ke_u110 k, ke_u101 k, ke_u104 k, ke_u108 k]
def cs_u112 : List (Nat × List Cmd) := [(10, [.row 10 3 I, .autoB [0, 1, 2, 10, 35, 36, 37] false []]), (18, [.row 13 86 T15, .autoB [0, 1, 2, 10, 13, 14, 15, 51, 52, 53] false []]), (20, [.autoB [0, 1, 2, 10, 13, 14, 15, 16, 17, 51, 52, 53] false []]), (22, [.autoB [0, 1, 2, 10, 13, 14, 15, 16, 17, 51, 52, 53] false []]), (28, [.frz 13 false (RTy.list T15), .autoB [13] false []])]
abbrev E_u112 (t_ : List (T15).T) (o_ : List (T15).T) (todo : List Item) (st : St) (o : Option R_u112) : Prop := ∀ r, o = some r → Ev Tryz.prog Tryz.f67 0 todo st (res_u112 r) (bo_u112 t_ o_ r)
theorem ev_u112 (k : Nat) (t_ : List (T15).T) (o_ : List (T15).T) : ∀ j, (∀ (y0 : List (T15).T) (y1 : List (T15).T) (y2 : Int) (y3 : Int) (y4 : List (I).T) (y5 : List (T15).T), E_u112 t_ o_ (placeAt Tryz.f67 10) (st_u112_10 y0 y1 y2 y3 y4 y5) (f_u112_10 k j y0 y1 y2 y3 y4 y5)) ∧ (∀ (y0 : List (T15).T) (y1 : List (T15).T) (y2 : Int) (y3 : Int) (y4 : Int) (y5 : Int) (y6 : List (RTy.int IntKind.i64).T) (y7 : List (T15).T), E_u112 t_ o_ (placeAt Tryz.f67 18) (st_u112_18 y0 y1 y2 y3 y4 y5 y6 y7) (f_u112_18 k j y0 y1 y2 y3 y4 y5 y6 y7)) ∧ (∀ (y0 : List (T15).T) (y1 : List (T15).T) (y2 : Int) (y3 : Int) (y4 : Int) (y5 : Int) (y6 : Int) (y7 : Int) (y8 : List (RTy.int IntKind.i64).T) (y9 : List (T15).T), E_u112 t_ o_ (placeAt Tryz.f67 20) (st_u112_20 y0 y1 y2 y3 y4 y5 y6 y7 y8 y9) (f_u112_20 k j y0 y1 y2 y3 y4 y5 y6 y7 y8 y9)) ∧ (∀ (y0 : List (T15).T) (y1 : List (T15).T) (y2 : Int) (y3 : Int) (y4 : Int) (y5 : Int) (y6 : Int) (y7 : Int) (y8 : List (RTy.int IntKind.i64).T) (y9 : List (T15).T), E_u112 t_ o_ (placeAt Tryz.f67 22) (st_u112_22 y0 y1 y2 y3 y4 y5 y6 y7 y8 y9) (f_u112_22 k j y0 y1 y2 y3 y4 y5 y6 y7 y8 y9)) ∧ (∀ (y0 : List (T15).T), E_u112 t_ o_ (placeAt Tryz.f67 28) (st_u112_28 y0) (f_u112_28 k j y0))
  | 0 => ⟨fun _ _ _ _ _ _ _ h => (nomatch h), fun _ _ _ _ _ _ _ _ _ h => (nomatch h), fun _ _ _ _ _ _ _ _ _ _ _ h => (nomatch h), fun _ _ _ _ _ _ _ _ _ _ _ h => (nomatch h), fun _ _ h => (nomatch h)⟩
  | j + 1 => by
    have ih := @ev_u112 k t_ o_ j
    refine ⟨?_, ?_, ?_, ?_, ?_⟩
    · intro y0 y1 y2 y3 y4 y5 r h
      rw [f_u112_10] at h
      exact go (K_u112 k) [28] cs_u112 [.frz 6 false (RTy.list T15), .autoB [6, 7] true []] (gT h (fun c h => gN2 h fun h => gN1 h id fun h => gC h 10 (ih.1 _ _ _ _ _ _ _)) fun c h => gN1 h (fun q => cc_u104 q) fun h => gC h 18 (ih.2.1 _ _ _ _ _ _ _ _ _)) (by kernel_rfl)
    · intro y0 y1 y2 y3 y4 y5 y6 y7 r h
      rw [f_u112_18] at h
      exact go (K_u112 k) [28] cs_u112 [.frz 6 false (RTy.list T15), .autoB [6, 7] true []] (gT h (fun c h => gN2 h fun h => gC h 20 (ih.2.2.1 _ _ _ _ _ _ _ _ _ _ _)) fun c h => gC h 28 (ih.2.2.2.2 _ _)) (by kernel_rfl)
    · intro y0 y1 y2 y3 y4 y5 y6 y7 y8 y9 r h
      rw [f_u112_20] at h
      exact go (K_u112 k) [28] cs_u112 [.frz 6 false (RTy.list T15), .autoB [6, 7] true []] (gN2 h fun h => gT h (fun c h => gC h 20 (ih.2.2.1 _ _ _ _ _ _ _ _ _ _ _)) fun c h => gC h 22 (ih.2.2.2.1 _ _ _ _ _ _ _ _ _ _ _)) (by kernel_rfl)
    · intro y0 y1 y2 y3 y4 y5 y6 y7 y8 y9 r h
      rw [f_u112_22] at h
      exact go (K_u112 k) [28] cs_u112 [.frz 6 false (RTy.list T15), .autoB [6, 7] true []] (gN2 h fun h => gT h (fun c h => gC h 22 (ih.2.2.2.1 _ _ _ _ _ _ _ _ _ _ _)) fun c h => gN2 h fun h => gT h (fun c h => gC h 18 (ih.2.1 _ _ _ _ _ _ _ _ _)) fun c h => gN h (fun q => conjC q.1 (conjC q.2.1 (conjC q.2.2.1 (conjC q.2.2.2.1 (conjC (cc_u108 q.2.2.2.2) conj0))))) fun h => gT h (fun c h => gN h (fun q => conjC q.1 (conjC q.2.1 (conjC q.2.2 conj0))) fun h => gC h 18 (ih.2.1 _ _ _ _ _ _ _ _ _)) fun c h => gC h 18 (ih.2.1 _ _ _ _ _ _ _ _ _)) (by kernel_rfl)
    · intro y0 r h
      rw [f_u112_28] at h
      exact go (K_u112 k) [28] cs_u112 [.frz 6 false (RTy.list T15), .autoB [6, 7] true []] (gN1 h (fun q => cc_u110 q) fun h => gT h (fun c h => gL h) fun c h => gL h) (by kernel_rfl)
theorem of_u112 (k : Nat) (t_ : List (T15).T) (o_ : List (T15).T) (r : R_u112) (h : f_u112 k t_ o_ = some r) : C_u112 t_ o_ r := by
  refine CC.of (fn := Tryz.f67) (by kernel_rfl) (by kernel_rfl) (by kernel_rfl) (by kernel_rfl) ?_
  unfold f_u112 at h
  exact go (K_u112 k) [28] cs_u112 [.frz 6 false (RTy.list T15), .autoB [6, 7] true []] (gN1 h (fun q => cc_u106 q) fun h => gT h (fun c h => gL h) fun c h => gN1 h (fun q => cc_u106 q) fun h => gT h (fun c h => gL h) fun c h => gN h (fun q => conjC (cc_u110 q.1) (conjC (cc_u110 q.2) conj0)) fun h => gN1 h (fun q => cc_u101 q) fun h => gC h 10 ((ev_u112 k t_ o_ k).1 _ _ _ _ _ _ _)) (by kernel_rfl)
theorem cc_u112 {k : Nat} {t_ : List (T15).T} {o_ : List (T15).T} (h : (f_u112 k t_ o_).isSome = true) : C_u112 t_ o_ (v_u112 k t_ o_) := ccG (Φ := C_u112 t_ o_) h (of_u112 k t_ o_)
abbrev R_u107 : Type := List (T15).T × Int
def res_u107 (r : R_u107) : AV := .tup [.r (.ro T15 r.1), .r (.v (.int .i64 r.2))]
def bo_u107 (l_ : List (T15).T) (r : R_u107) : List (Nat × Blk) := []
def args_u107 (l_ : List (T15).T) : List AV := [.r (.ro T15 l_)]
def bin_u107 (l_ : List (T15).T) : List Blk := []
abbrev C_u107 (l_ : List (T15).T) (r : R_u107) : Prop := CC Tryz.prog 45 (args_u107 l_) (bin_u107 l_) (res_u107 r) (bo_u107 l_ r)
def f_u107 (k : Nat) (l_ : List (T15).T) : Option R_u107 :=
  if ((f_u112 k l_ []).isSome = true) then
  some (((v_u112 k l_ []).1, (v_u112 k l_ []).2))
  else none
def v_u107 (k : Nat) (l_ : List (T15).T) : R_u107 := (f_u107 k l_).getD ([], 0)
def ke_u107 (k : Nat) : Ke := (45, fun xs => match xs with
  | [_] => some [false]
  | _ => none, fun xs bs => match xs, bs with
  | [.r (.ro tl__ ql_)], [] => (castL tl__ T15 ql_).bind fun l_ => some (.one (res_u107 (v_u107 k l_), bo_u107 l_ (v_u107 k l_)))
  | _, _ => none)
theorem of_u107 (k : Nat) (l_ : List (T15).T) (r : R_u107) (h : f_u107 k l_ = some r) : C_u107 l_ r := by
  refine CC.of (fn := Tryz.f45) (by kernel_rfl) (by kernel_rfl) (by kernel_rfl) (by kernel_rfl) ?_
  unfold f_u107 at h
  exact go (mkK [ke_u108 k, ke_u112 k]) [] [] [.frz 2 false (RTy.list T15), .autoB [2, 3] true []] (gN1 h (fun q => cc_u112 q) fun h => gL h) (by kernel_rfl)
theorem cc_u107 {k : Nat} {l_ : List (T15).T} (h : (f_u107 k l_).isSome = true) : C_u107 l_ (v_u107 k l_) := ccG (Φ := C_u107 l_) h (of_u107 k l_)
abbrev R_u22 : Type := List (T15).T × Int
def res_u22 (r : R_u22) : AV := .tup [.r (.ro T15 r.1), .r (.v (.int .i64 r.2))]
def bo_u22 (m_ : List (T0).T) (r : R_u22) : List (Nat × Blk) := []
def args_u22 (m_ : List (T0).T) : List AV := [.r (.ro T0 m_)]
def bin_u22 (m_ : List (T0).T) : List Blk := []
abbrev C_u22 (m_ : List (T0).T) (r : R_u22) : Prop := CC Tryz.prog 19 (args_u22 m_) (bin_u22 m_) (res_u22 r) (bo_u22 m_ r)
def st_u22_6 (y0 : List (T0).T) (y1 : Int) (y2 : Int) (y3 : List (T15).T) : St := ⟨mkS 29 [(5, .own 1000000 0), (13, .r (.ro T0 y0)), (14, .r (.v (.int .i64 y1))), (15, .r (.v (.int .i64 y2)))], [(1000000, 0, .row 86 T15 y3)]⟩
def st_u22_10 (y0 : List (T15).T) : St := ⟨mkS 29 [(5, .r (.ro T15 y0))], []⟩
mutual
def f_u22_6 (k : Nat) : Nat → List (T0).T → Int → Int → List (T15).T → Option R_u22
  | 0, _, _, _, _ => none
  | j + 1, y0, y1, y2, y3 =>
  bif (decide (y2 < y1)) then
  if (0 ≤ y2) ∧ (y2 < (↑y0.length : Int)) then
  if ((f_u30 k (y0.getD y2.toNat T0.dflt)).isSome = true) ∧ ((y3.length + [v_u30 k (y0.getD y2.toNat T0.dflt)].length) * (16 : Nat) ≤ (140737488355328 : Nat)) then
  f_u22_6 k j y0 y1 ((IntKind.i64.wrap (y2 + 1))) ((y3 ++ [v_u30 k (y0.getD y2.toNat T0.dflt)]))
  else none
  else none
  else
  f_u22_10 k j y3
def f_u22_10 (k : Nat) : Nat → List (T15).T → Option R_u22
  | 0, _ => none
  | j + 1, y0 =>
  if ((f_u107 k y0).isSome = true) then
  some (((v_u107 k y0).1, (v_u107 k y0).2))
  else none
end
def f_u22 (k : Nat) (m_ : List (T0).T) : Option R_u22 :=
  if ((f_u18 k m_).isSome = true) then
  bif (v_u18 k m_ != (0 : Int)) then
  some (([], v_u18 k m_))
  else
  f_u22_6 k k m_ ((↑m_.length : Int)) 0 ([])
  else none
def v_u22 (k : Nat) (m_ : List (T0).T) : R_u22 := (f_u22 k m_).getD ([], 0)
def ke_u22 (k : Nat) : Ke := (19, fun xs => match xs with
  | [_] => some [false]
  | _ => none, fun xs bs => match xs, bs with
  | [.r (.ro tm__ qm_)], [] => (castL tm__ T0 qm_).bind fun m_ => some (.one (res_u22 (v_u22 k m_), bo_u22 m_ (v_u22 k m_)))
  | _, _ => none)
def cs_u22 : List (Nat × List Cmd) := [(6, [.row 5 86 T15, .autoB [5, 13, 14, 15] false []]), (10, [.frz 5 false (RTy.list T15), .autoB [5] false []])]
abbrev E_u22 (m_ : List (T0).T) (todo : List Item) (st : St) (o : Option R_u22) : Prop := ∀ r, o = some r → Ev Tryz.prog Tryz.f19 0 todo st (res_u22 r) (bo_u22 m_ r)
theorem ev_u22 (k : Nat) (m_ : List (T0).T) : ∀ j, (∀ (y0 : List (T0).T) (y1 : Int) (y2 : Int) (y3 : List (T15).T), E_u22 m_ (placeAt Tryz.f19 6) (st_u22_6 y0 y1 y2 y3) (f_u22_6 k j y0 y1 y2 y3)) ∧ (∀ (y0 : List (T15).T), E_u22 m_ (placeAt Tryz.f19 10) (st_u22_10 y0) (f_u22_10 k j y0))
  | 0 => ⟨fun _ _ _ _ _ h => (nomatch h), fun _ _ h => (nomatch h)⟩
  | j + 1 => by
    have ih := @ev_u22 k m_ j
    refine ⟨?_, ?_⟩
    · intro y0 y1 y2 y3 r h
      rw [f_u22_6] at h
      exact go (mkK [ke_u18 k, ke_u30 k, ke_u107 k]) [10] cs_u22 [.frz 2 false (RTy.list T15), .autoB [2, 3] true []] (gT h (fun c h => gN2 h fun h => gN h (fun q => conjC (cc_u30 q.1) (conjC q.2 conj0)) fun h => gC h 6 (ih.1 _ _ _ _ _)) fun c h => gC h 10 (ih.2 _ _)) (by kernel_rfl)
    · intro y0 r h
      rw [f_u22_10] at h
      exact go (mkK [ke_u18 k, ke_u30 k, ke_u107 k]) [10] cs_u22 [.frz 2 false (RTy.list T15), .autoB [2, 3] true []] (gN1 h (fun q => cc_u107 q) fun h => gL h) (by kernel_rfl)
theorem of_u22 (k : Nat) (m_ : List (T0).T) (r : R_u22) (h : f_u22 k m_ = some r) : C_u22 m_ r := by
  refine CC.of (fn := Tryz.f19) (by kernel_rfl) (by kernel_rfl) (by kernel_rfl) (by kernel_rfl) ?_
  unfold f_u22 at h
  exact go (mkK [ke_u18 k, ke_u30 k, ke_u107 k]) [10] cs_u22 [.frz 2 false (RTy.list T15), .autoB [2, 3] true []] (gN1 h (fun q => cc_u18 q) fun h => gT h (fun c h => gL h) fun c h => gC h 6 ((ev_u22 k m_ k).1 _ _ _ _ _)) (by kernel_rfl)
theorem cc_u22 {k : Nat} {m_ : List (T0).T} (h : (f_u22 k m_).isSome = true) : C_u22 m_ (v_u22 k m_) := ccG (Φ := C_u22 m_) h (of_u22 k m_)
abbrev R_u109 : Type := Int × Int
def res_u109 (r : R_u109) : AV := .tup [.r (.v (.int .i64 r.1)), .r (.v (.int .i64 r.2))]
def bo_u109 (l_ : List (T15).T) (r : R_u109) : List (Nat × Blk) := []
def args_u109 (l_ : List (T15).T) : List AV := [.r (.ro T15 l_)]
def bin_u109 (l_ : List (T15).T) : List Blk := []
abbrev C_u109 (l_ : List (T15).T) (r : R_u109) : Prop := CC Tryz.prog 115 (args_u109 l_) (bin_u109 l_) (res_u109 r) (bo_u109 l_ r)
def st_u109_6 (y0 : Int) (y1 : List (T15).T) (y2 : Int) (y3 : Int) : St := ⟨mkS 29 [(5, .r (.v (.int .i64 y0))), (14, .r (.ro T15 y1)), (15, .r (.v (.int .i64 y2))), (16, .r (.v (.int .i64 y3)))], []⟩
def f_u109_6 (k : Nat) : Nat → Int → List (T15).T → Int → Int → Option R_u109
  | 0, _, _, _, _ => none
  | j + 1, y0, y1, y2, y3 =>
  bif (decide (y3 < y2)) then
  if (0 ≤ y3) ∧ (y3 < (↑y1.length : Int)) then
  f_u109_6 k j ((IntKind.i64.wrap (y0 + IntKind.i64.wrap ((y1.getD y3.toNat T15.dflt).2 - (y1.getD y3.toNat T15.dflt).1)))) y1 y2 ((IntKind.i64.wrap (y3 + 1)))
  else none
  else
  some ((y0, 0))
def f_u109 (k : Nat) (l_ : List (T15).T) : Option R_u109 :=
  if ((f_u106 k l_).isSome = true) then
  bif (v_u106 k l_ != (0 : Int)) then
  some ((0, v_u106 k l_))
  else
  if ((f_u110 k l_).isSome = true) then
  f_u109_6 k k 0 ((v_u110 k l_)) ((↑ (List.length (v_u110 k l_)) : Int)) 0
  else none
  else none
def v_u109 (k : Nat) (l_ : List (T15).T) : R_u109 := (f_u109 k l_).getD (0, 0)
def ke_u109 (k : Nat) : Ke := (115, fun xs => match xs with
  | [_] => some [false]
  | _ => none, fun xs bs => match xs, bs with
  | [.r (.ro tl__ ql_)], [] => (castL tl__ T15 ql_).bind fun l_ => some (.one (res_u109 (v_u109 k l_), bo_u109 l_ (v_u109 k l_)))
  | _, _ => none)
def cs_u109 : List (Nat × List Cmd) := [(6, [.autoB [5, 14, 15, 16] false []])]
abbrev E_u109 (l_ : List (T15).T) (todo : List Item) (st : St) (o : Option R_u109) : Prop := ∀ r, o = some r → Ev Tryz.prog Tryz.f115 0 todo st (res_u109 r) (bo_u109 l_ r)
theorem ev_u109 (k : Nat) (l_ : List (T15).T) : ∀ j, (∀ (y0 : Int) (y1 : List (T15).T) (y2 : Int) (y3 : Int), E_u109 l_ (placeAt Tryz.f115 6) (st_u109_6 y0 y1 y2 y3) (f_u109_6 k j y0 y1 y2 y3))
  | 0 => fun _ _ _ _ _ h => (nomatch h)
  | j + 1 => by
    have ih := @ev_u109 k l_ j
    · intro y0 y1 y2 y3 r h
      rw [f_u109_6] at h
      exact go (mkK [ke_u106 k, ke_u110 k]) [] cs_u109 [.autoB [2, 3] true []] (gT h (fun c h => gN2 h fun h => gC h 6 (ih _ _ _ _ _)) fun c h => gL h) (by kernel_rfl)
theorem of_u109 (k : Nat) (l_ : List (T15).T) (r : R_u109) (h : f_u109 k l_ = some r) : C_u109 l_ r := by
  refine CC.of (fn := Tryz.f115) (by kernel_rfl) (by kernel_rfl) (by kernel_rfl) (by kernel_rfl) ?_
  unfold f_u109 at h
  exact go (mkK [ke_u106 k, ke_u110 k]) [] cs_u109 [.autoB [2, 3] true []] (gN1 h (fun q => cc_u106 q) fun h => gT h (fun c h => gL h) fun c h => gN1 h (fun q => cc_u110 q) fun h => gC h 6 ((ev_u109 k l_ k) _ _ _ _ _)) (by kernel_rfl)
theorem cc_u109 {k : Nat} {l_ : List (T15).T} (h : (f_u109 k l_).isSome = true) : C_u109 l_ (v_u109 k l_) := ccG (Φ := C_u109 l_) h (of_u109 k l_)
abbrev R_u24 : Type := Bool
def res_u24 (r : R_u24) : AV := .r (.v (.bool r))
def bo_u24 (m_ : List (T0).T) (r : R_u24) : List (Nat × Blk) := []
def args_u24 (m_ : List (T0).T) : List AV := [.r (.ro T0 m_)]
def bin_u24 (m_ : List (T0).T) : List Blk := []
abbrev C_u24 (m_ : List (T0).T) (r : R_u24) : Prop := CC Tryz.prog 102 (args_u24 m_) (bin_u24 m_) (res_u24 r) (bo_u24 m_ r)
def f_u24 (k : Nat) (m_ : List (T0).T) : Option R_u24 :=
  if ((f_u22 k m_).isSome = true) then
  bif ((v_u22 k m_).2 != (0 : Int)) then
  some false
  else
  if ((f_u109 k (v_u22 k m_).1).isSome = true) then
  bif ((v_u109 k (v_u22 k m_).1).2 == (0 : Int)) then
  if (((v_u109 k (v_u22 k m_).1).2 == (0 : Int)) = true) ∧ ((f_u31 k m_).isSome = true) then
  some (true && (v_u109 k (v_u22 k m_).1).1 == v_u31 k m_)
  else none
  else
  if (((v_u109 k (v_u22 k m_).1).2 == (0 : Int)) = false) then
  some false
  else none
  else none
  else none
def v_u24 (k : Nat) (m_ : List (T0).T) : R_u24 := (f_u24 k m_).getD false
def ke_u24 (k : Nat) : Ke := (102, fun xs => match xs with
  | [_] => some [false]
  | _ => none, fun xs bs => match xs, bs with
  | [.r (.ro tm__ qm_)], [] => (castL tm__ T0 qm_).bind fun m_ => some (.one (res_u24 (v_u24 k m_), bo_u24 m_ (v_u24 k m_)))
  | _, _ => none)
theorem of_u24 (k : Nat) (m_ : List (T0).T) (r : R_u24) (h : f_u24 k m_ = some r) : C_u24 m_ r := by
  refine CC.of (fn := Tryz.f102) (by kernel_rfl) (by kernel_rfl) (by kernel_rfl) (by kernel_rfl) ?_
  unfold f_u24 at h
  exact go (mkK [ke_u31 k, ke_u22 k, ke_u109 k]) [] [] [.autoB [2] true []] (gN1 h (fun q => cc_u22 q) fun h => gT h (fun c h => gL h) fun c h => gN1 h (fun q => cc_u109 q) fun h => gT h (fun c h => gN h (fun q => conjC q.1 (conjC (cc_u31 q.2) conj0)) fun h => gL h) fun c h => gN1 h id fun h => gL h) (by kernel_rfl)
theorem cc_u24 {k : Nat} {m_ : List (T0).T} (h : (f_u24 k m_).isSome = true) : C_u24 m_ (v_u24 k m_) := ccG (Φ := C_u24 m_) h (of_u24 k m_)
abbrev R_u55 : Type := Bool
def res_u55 (r : R_u55) : AV := .r (.v (.bool r))
def bo_u55 (r_ : T0.T) (r : R_u55) : List (Nat × Blk) := []
def args_u55 (r_ : T0.T) : List AV := [.agg (rvs (enc T0 r_))]
def bin_u55 (r_ : T0.T) : List Blk := []
abbrev C_u55 (r_ : T0.T) (r : R_u55) : Prop := CC Tryz.prog 76 (args_u55 r_) (bin_u55 r_) (res_u55 r) (bo_u55 r_ r)
def f_u55 (k : Nat) (r_ : T0.T) : Option R_u55 :=
  bif (decide (r_.2.1 < (1 : Int)) || decide (r_.2.1 > (17179869184 : Int)) || decide (r_.1 < (0 : Int)) || decide (r_.1 ≥ (17179869184 : Int))) then
  some false
  else
  bif r_.2.2 then
  some (decide (IntKind.i64.wrap (IntKind.i64.wrap (r_.1 - r_.2.1) + 1) ≥ 0))
  else
  some (decide (IntKind.i64.wrap (r_.1 + r_.2.1) ≤ 17179869184))
def v_u55 (k : Nat) (r_ : T0.T) : R_u55 := (f_u55 k r_).getD false
def ke_u55 (k : Nat) : Ke := (76, fun xs => match xs with
  | [_] => some [false]
  | _ => none, fun xs bs => match xs, bs with
  | [.agg qr_], [] => (decS [] T0 qr_).bind fun r_ => some (.one (res_u55 (v_u55 k r_), bo_u55 r_ (v_u55 k r_)))
  | _, _ => none)
theorem of_u55 (k : Nat) (r_ : T0.T) (r : R_u55) (h : f_u55 k r_ = some r) : C_u55 r_ r := by
  refine CC.of (fn := Tryz.f76) (by kernel_rfl) (by kernel_rfl) (by kernel_rfl) (by kernel_rfl) ?_
  unfold f_u55 at h
  exact go (mkK []) [] [] [.autoB [2] true []] (gT h (fun c h => gL h) fun c h => gT h (fun c h => gL h) fun c h => gL h) (by kernel_rfl)
theorem cc_u55 {k : Nat} {r_ : T0.T} (h : (f_u55 k r_).isSome = true) : C_u55 r_ (v_u55 k r_) := ccG (Φ := C_u55 r_) h (of_u55 k r_)
abbrev R_u57 : Type := Int
def res_u57 (r : R_u57) : AV := .r (.v (.int .i64 r))
def bo_u57 (m_ : List (T0).T) (r : R_u57) : List (Nat × Blk) := []
def args_u57 (m_ : List (T0).T) : List AV := [.r (.ro T0 m_)]
def bin_u57 (m_ : List (T0).T) : List Blk := []
abbrev C_u57 (m_ : List (T0).T) (r : R_u57) : Prop := CC Tryz.prog 77 (args_u57 m_) (bin_u57 m_) (res_u57 r) (bo_u57 m_ r)
def st_u57_3 (y0 : List (T0).T) (y1 : Int) (y2 : Int) : St := ⟨mkS 19 [(0, .r (.ro T0 y0)), (3, .r (.v (.int .i64 y1))), (4, .r (.v (.int .i64 y2)))], []⟩
def f_u57_3 (k : Nat) : Nat → List (T0).T → Int → Int → Option R_u57
  | 0, _, _, _ => none
  | j + 1, y0, y1, y2 =>
  bif (decide (y2 < (↑y0.length : Int))) then
  if (0 ≤ y2) ∧ (y2 < (↑y0.length : Int)) then
  f_u57_3 k j y0 ((IntKind.i64.wrap (y1 + (y0.getD y2.toNat T0.dflt).2.1))) ((IntKind.i64.wrap (y2 + 1)))
  else none
  else
  some y1
def f_u57 (k : Nat) (m_ : List (T0).T) : Option R_u57 :=
  f_u57_3 k k m_ 0 0
def v_u57 (k : Nat) (m_ : List (T0).T) : R_u57 := (f_u57 k m_).getD 0
def ke_u57 (k : Nat) : Ke := (77, fun xs => match xs with
  | [_] => some [false]
  | _ => none, fun xs bs => match xs, bs with
  | [.r (.ro tm__ qm_)], [] => (castL tm__ T0 qm_).bind fun m_ => some (.one (res_u57 (v_u57 k m_), bo_u57 m_ (v_u57 k m_)))
  | _, _ => none)
def cs_u57 : List (Nat × List Cmd) := [(3, [.autoB [0, 3, 4] false []])]
abbrev E_u57 (m_ : List (T0).T) (todo : List Item) (st : St) (o : Option R_u57) : Prop := ∀ r, o = some r → Ev Tryz.prog Tryz.f77 0 todo st (res_u57 r) (bo_u57 m_ r)
theorem ev_u57 (k : Nat) (m_ : List (T0).T) : ∀ j, (∀ (y0 : List (T0).T) (y1 : Int) (y2 : Int), E_u57 m_ (placeAt Tryz.f77 3) (st_u57_3 y0 y1 y2) (f_u57_3 k j y0 y1 y2))
  | 0 => fun _ _ _ _ h => (nomatch h)
  | j + 1 => by
    have ih := @ev_u57 k m_ j
    · intro y0 y1 y2 r h
      rw [f_u57_3] at h
      exact go (mkK []) [] cs_u57 [.autoB [2] true []] (gT h (fun c h => gN2 h fun h => gC h 3 (ih _ _ _ _)) fun c h => gL h) (by kernel_rfl)
theorem of_u57 (k : Nat) (m_ : List (T0).T) (r : R_u57) (h : f_u57 k m_ = some r) : C_u57 m_ r := by
  refine CC.of (fn := Tryz.f77) (by kernel_rfl) (by kernel_rfl) (by kernel_rfl) (by kernel_rfl) ?_
  unfold f_u57 at h
  exact go (mkK []) [] cs_u57 [.autoB [2] true []] (gC h 3 ((ev_u57 k m_ k) _ _ _ _)) (by kernel_rfl)
theorem cc_u57 {k : Nat} {m_ : List (T0).T} (h : (f_u57 k m_).isSome = true) : C_u57 m_ (v_u57 k m_) := ccG (Φ := C_u57 m_) h (of_u57 k m_)
abbrev R_u49 : Type := Int
def res_u49 (r : R_u49) : AV := .r (.v (.int .i64 r))
def bo_u49 (m_ : List (T0).T) (r : R_u49) : List (Nat × Blk) := []
def args_u49 (m_ : List (T0).T) : List AV := [.r (.ro T0 m_)]
def bin_u49 (m_ : List (T0).T) : List Blk := []
abbrev C_u49 (m_ : List (T0).T) (r : R_u49) : Prop := CC Tryz.prog 56 (args_u49 m_) (bin_u49 m_) (res_u49 r) (bo_u49 m_ r)
def st_u49_4 (y0 : List (T0).T) (y1 : Int) : St := ⟨mkS 22 [(0, .r (.ro T0 y0)), (3, .r (.v (.int .i64 y1)))], []⟩
def f_u49_4 (k : Nat) : Nat → List (T0).T → Int → Option R_u49
  | 0, _, _ => none
  | j + 1, y0, y1 =>
  bif (decide (y1 < (↑y0.length : Int))) then
  if (0 ≤ y1) ∧ (y1 < (↑y0.length : Int)) ∧ ((f_u55 k (y0.getD y1.toNat T0.dflt)).isSome = true) then
  bif (!v_u55 k (y0.getD y1.toNat T0.dflt)) then
  some 1
  else
  f_u49_4 k j y0 ((IntKind.i64.wrap (y1 + 1)))
  else none
  else
  if ((f_u57 k y0).isSome = true) then
  bif (decide (v_u57 k y0 > (17179869184 : Int))) then
  some 21
  else
  some 0
  else none
def f_u49 (k : Nat) (m_ : List (T0).T) : Option R_u49 :=
  bif (decide ((↑m_.length : Int) > (256 : Int))) then
  some 8
  else
  f_u49_4 k k m_ 0
def v_u49 (k : Nat) (m_ : List (T0).T) : R_u49 := (f_u49 k m_).getD 0
def ke_u49 (k : Nat) : Ke := (56, fun xs => match xs with
  | [_] => some [false]
  | _ => none, fun xs bs => match xs, bs with
  | [.r (.ro tm__ qm_)], [] => (castL tm__ T0 qm_).bind fun m_ => some (.one (res_u49 (v_u49 k m_), bo_u49 m_ (v_u49 k m_)))
  | _, _ => none)
def cs_u49 : List (Nat × List Cmd) := [(4, [.autoB [0, 3] false []])]
abbrev E_u49 (m_ : List (T0).T) (todo : List Item) (st : St) (o : Option R_u49) : Prop := ∀ r, o = some r → Ev Tryz.prog Tryz.f56 0 todo st (res_u49 r) (bo_u49 m_ r)
theorem ev_u49 (k : Nat) (m_ : List (T0).T) : ∀ j, (∀ (y0 : List (T0).T) (y1 : Int), E_u49 m_ (placeAt Tryz.f56 4) (st_u49_4 y0 y1) (f_u49_4 k j y0 y1))
  | 0 => fun _ _ _ h => (nomatch h)
  | j + 1 => by
    have ih := @ev_u49 k m_ j
    · intro y0 y1 r h
      rw [f_u49_4] at h
      exact go (mkK [ke_u55 k, ke_u57 k]) [] cs_u49 [.autoB [2] true []] (gT h (fun c h => gN h (fun q => conjC q.1 (conjC q.2.1 (conjC (cc_u55 q.2.2) conj0))) fun h => gT h (fun c h => gL h) fun c h => gC h 4 (ih _ _ _)) fun c h => gN1 h (fun q => cc_u57 q) fun h => gT h (fun c h => gL h) fun c h => gL h) (by kernel_rfl)
theorem of_u49 (k : Nat) (m_ : List (T0).T) (r : R_u49) (h : f_u49 k m_ = some r) : C_u49 m_ r := by
  refine CC.of (fn := Tryz.f56) (by kernel_rfl) (by kernel_rfl) (by kernel_rfl) (by kernel_rfl) ?_
  unfold f_u49 at h
  exact go (mkK [ke_u55 k, ke_u57 k]) [] cs_u49 [.autoB [2] true []] (gT h (fun c h => gL h) fun c h => gC h 4 ((ev_u49 k m_ k) _ _ _)) (by kernel_rfl)
theorem cc_u49 {k : Nat} {m_ : List (T0).T} (h : (f_u49 k m_).isSome = true) : C_u49 m_ (v_u49 k m_) := ccG (Φ := C_u49 m_) h (of_u49 k m_)
abbrev R_u56 : Type := Int
def res_u56 (r : R_u56) : AV := .r (.v (.int .i64 r))
def bo_u56 (r_ : T0.T) (k_ : Int) (r : R_u56) : List (Nat × Blk) := []
def args_u56 (r_ : T0.T) (k_ : Int) : List AV := [.agg (rvs (enc T0 r_)), .r (.v (.int .i64 k_))]
def bin_u56 (r_ : T0.T) (k_ : Int) : List Blk := []
abbrev C_u56 (r_ : T0.T) (k_ : Int) (r : R_u56) : Prop := CC Tryz.prog 57 (args_u56 r_ k_) (bin_u56 r_ k_) (res_u56 r) (bo_u56 r_ k_ r)
def f_u56 (k : Nat) (r_ : T0.T) (k_ : Int) : Option R_u56 :=
  bif r_.2.2 then
  some (IntKind.i64.wrap (r_.1 - k_))
  else
  some (IntKind.i64.wrap (r_.1 + k_))
def v_u56 (k : Nat) (r_ : T0.T) (k_ : Int) : R_u56 := (f_u56 k r_ k_).getD 0
def ke_u56 (k : Nat) : Ke := (57, fun xs => match xs with
  | [_, _] => some [false, false]
  | _ => none, fun xs bs => match xs, bs with
  | [.agg qr_, .r (.v (.int .i64 k_))], [] => (decS [] T0 qr_).bind fun r_ => some (.one (res_u56 (v_u56 k r_ k_), bo_u56 r_ k_ (v_u56 k r_ k_)))
  | _, _ => none)
theorem of_u56 (k : Nat) (r_ : T0.T) (k_ : Int) (r : R_u56) (h : f_u56 k r_ k_ = some r) : C_u56 r_ k_ r := by
  refine CC.of (fn := Tryz.f57) (by kernel_rfl) (by kernel_rfl) (by kernel_rfl) (by kernel_rfl) ?_
  unfold f_u56 at h
  exact go (mkK []) [] [] [.autoB [4] true []] (gT h (fun c h => gL h) fun c h => gL h) (by kernel_rfl)
theorem cc_u56 {k : Nat} {r_ : T0.T} {k_ : Int} (h : (f_u56 k r_ k_).isSome = true) : C_u56 r_ k_ (v_u56 k r_ k_) := ccG (Φ := C_u56 r_ k_) h (of_u56 k r_ k_)
abbrev R_u60 : Type := Int × Int
def res_u60 (r : R_u60) : AV := .tup [.r (.v (.int .i64 r.1)), .r (.v (.int .i64 r.2))]
def bo_u60 (m_ : List (T0).T) (x_ : Int) (r : R_u60) : List (Nat × Blk) := []
def args_u60 (m_ : List (T0).T) (x_ : Int) : List AV := [.r (.ro T0 m_), .r (.v (.int .i64 x_))]
def bin_u60 (m_ : List (T0).T) (x_ : Int) : List Blk := []
abbrev C_u60 (m_ : List (T0).T) (x_ : Int) (r : R_u60) : Prop := CC Tryz.prog 73 (args_u60 m_ x_) (bin_u60 m_ x_) (res_u60 r) (bo_u60 m_ x_ r)
def st_u60_2 (y0 : List (T0).T) (y1 : Int) (y2 : Int) : St := ⟨mkS 33 [(0, .r (.ro T0 y0)), (1, .r (.v (.int .i64 y1))), (6, .r (.v (.int .i64 y2)))], []⟩
def f_u60_2 (k : Nat) : Nat → List (T0).T → Int → Int → Option R_u60
  | 0, _, _, _ => none
  | j + 1, y0, y1, y2 =>
  bif (decide (y2 < (↑y0.length : Int)) && decide (y1 ≥ (0 : Int))) then
  if (0 ≤ y2) ∧ (y2 < (↑y0.length : Int)) then
  bif (decide (y1 < (y0.getD y2.toNat T0.dflt).2.1)) then
  some ((y2, y1))
  else
  if (0 ≤ y2) ∧ (y2 < (↑y0.length : Int)) then
  f_u60_2 k j y0 ((IntKind.i64.wrap (y1 - (y0.getD y2.toNat T0.dflt).2.1))) ((IntKind.i64.wrap (y2 + 1)))
  else none
  else none
  else
  some ((-1, 0))
def f_u60 (k : Nat) (m_ : List (T0).T) (x_ : Int) : Option R_u60 :=
  f_u60_2 k k m_ x_ 0
def v_u60 (k : Nat) (m_ : List (T0).T) (x_ : Int) : R_u60 := (f_u60 k m_ x_).getD (0, 0)
def ke_u60 (k : Nat) : Ke := (73, fun xs => match xs with
  | [_, _] => some [false, false]
  | _ => none, fun xs bs => match xs, bs with
  | [.r (.ro tm__ qm_), .r (.v (.int .i64 x_))], [] => (castL tm__ T0 qm_).bind fun m_ => some (.one (res_u60 (v_u60 k m_ x_), bo_u60 m_ x_ (v_u60 k m_ x_)))
  | _, _ => none)
def cs_u60 : List (Nat × List Cmd) := [(2, [.autoB [0, 1, 6] false []])]
abbrev E_u60 (m_ : List (T0).T) (x_ : Int) (todo : List Item) (st : St) (o : Option R_u60) : Prop := ∀ r, o = some r → Ev Tryz.prog Tryz.f73 0 todo st (res_u60 r) (bo_u60 m_ x_ r)
theorem ev_u60 (k : Nat) (m_ : List (T0).T) (x_ : Int) : ∀ j, (∀ (y0 : List (T0).T) (y1 : Int) (y2 : Int), E_u60 m_ x_ (placeAt Tryz.f73 2) (st_u60_2 y0 y1 y2) (f_u60_2 k j y0 y1 y2))
  | 0 => fun _ _ _ _ h => (nomatch h)
  | j + 1 => by
    have ih := @ev_u60 k m_ x_ j
    · intro y0 y1 y2 r h
      rw [f_u60_2] at h
      exact go (mkK []) [] cs_u60 [.autoB [4, 5] true []] (gT h (fun c h => gN2 h fun h => gT h (fun c h => gL h) fun c h => gN2 h fun h => gC h 2 (ih _ _ _ _)) fun c h => gL h) (by kernel_rfl)
theorem of_u60 (k : Nat) (m_ : List (T0).T) (x_ : Int) (r : R_u60) (h : f_u60 k m_ x_ = some r) : C_u60 m_ x_ r := by
  refine CC.of (fn := Tryz.f73) (by kernel_rfl) (by kernel_rfl) (by kernel_rfl) (by kernel_rfl) ?_
  unfold f_u60 at h
  exact go (mkK []) [] cs_u60 [.autoB [4, 5] true []] (gC h 2 ((ev_u60 k m_ x_ k) _ _ _ _)) (by kernel_rfl)
theorem cc_u60 {k : Nat} {m_ : List (T0).T} {x_ : Int} (h : (f_u60 k m_ x_).isSome = true) : C_u60 m_ x_ (v_u60 k m_ x_) := ccG (Φ := C_u60 m_ x_) h (of_u60 k m_ x_)
abbrev R_u54 : Type := T0.T
def res_u54 (r : R_u54) : AV := .agg (rvs (enc T0 r))
def bo_u54 (r_ : T0.T) (k_ : Int) (n_ : Int) (r : R_u54) : List (Nat × Blk) := []
def args_u54 (r_ : T0.T) (k_ : Int) (n_ : Int) : List AV := [.agg (rvs (enc T0 r_)), .r (.v (.int .i64 k_)), .r (.v (.int .i64 n_))]
def bin_u54 (r_ : T0.T) (k_ : Int) (n_ : Int) : List Blk := []
abbrev C_u54 (r_ : T0.T) (k_ : Int) (n_ : Int) (r : R_u54) : Prop := CC Tryz.prog 98 (args_u54 r_ k_ n_) (bin_u54 r_ k_ n_) (res_u54 r) (bo_u54 r_ k_ n_ r)
def f_u54 (k : Nat) (r_ : T0.T) (k_ : Int) (n_ : Int) : Option R_u54 :=
  if ((f_u56 k r_ k_).isSome = true) then
  some ((v_u56 k r_ k_, (n_, r_.2.2 && decide (n_ > 1))))
  else none
def v_u54 (k : Nat) (r_ : T0.T) (k_ : Int) (n_ : Int) : R_u54 := (f_u54 k r_ k_ n_).getD (T0).dflt
def ke_u54 (k : Nat) : Ke := (98, fun xs => match xs with
  | [_, _, _] => some [false, false, false]
  | _ => none, fun xs bs => match xs, bs with
  | [.agg qr_, .r (.v (.int .i64 k_)), .r (.v (.int .i64 n_))], [] => (decS [] T0 qr_).bind fun r_ => some (.one (res_u54 (v_u54 k r_ k_ n_), bo_u54 r_ k_ n_ (v_u54 k r_ k_ n_)))
  | _, _ => none)
theorem of_u54 (k : Nat) (r_ : T0.T) (k_ : Int) (n_ : Int) (r : R_u54) (h : f_u54 k r_ k_ n_ = some r) : C_u54 r_ k_ n_ r := by
  refine CC.of (fn := Tryz.f98) (by kernel_rfl) (by kernel_rfl) (by kernel_rfl) (by kernel_rfl) ?_
  unfold f_u54 at h
  exact go (mkK [ke_u56 k]) [] [] [.autoB [6] true []] (gN1 h (fun q => cc_u56 q) fun h => gL h) (by kernel_rfl)
theorem cc_u54 {k : Nat} {r_ : T0.T} {k_ : Int} {n_ : Int} (h : (f_u54 k r_ k_ n_).isSome = true) : C_u54 r_ k_ n_ (v_u54 k r_ k_ n_) := ccG (Φ := C_u54 r_ k_ n_) h (of_u54 k r_ k_ n_)
abbrev R_u59 : Type := List (T0).T
def res_u59 (r : R_u59) : AV := .r (.ro T0 r)
def bo_u59 (m_ : List (T0).T) (r_ : T0.T) (r : R_u59) : List (Nat × Blk) := []
def args_u59 (m_ : List (T0).T) (r_ : T0.T) : List AV := [.r (.ro T0 m_), .agg (rvs (enc T0 r_))]
def bin_u59 (m_ : List (T0).T) (r_ : T0.T) : List Blk := []
abbrev C_u59 (m_ : List (T0).T) (r_ : T0.T) (r : R_u59) : Prop := CC Tryz.prog 74 (args_u59 m_ r_) (bin_u59 m_ r_) (res_u59 r) (bo_u59 m_ r_ r)
def st_u59_2 (y0 : T0.T) (y1 : List (T0).T) : St := ⟨mkS 101 [(3, .ptr 1000000 0 0), (5, .own 1000001 0)], [(1000000, 0, .var 54 (rvs (enc T0 y0))), (1000001, 0, .row 54 T0 y1)]⟩
def f_u59_2 (k : Nat) : Nat → T0.T → List (T0).T → Option R_u59
  | 0, _, _ => none
  | j + 1, y0, y1 =>
  bif (decide (y0.2.1 > (0 : Int))) then
  bif (decide (IntKind.i64.wrap ((↑y1.length : Int) - (1 : Int)) < (0 : Int))) then
  if ((f_u54 k y0 0 y0.2.1).isSome = true) ∧ ((y1.length + [v_u54 k y0 (0 : Int) y0.2.1].length) * (24 : Nat) ≤ (140737488355328 : Nat)) then
  some (y1 ++ [v_u54 k y0 0 y0.2.1])
  else none
  else
  if ((0 : Int) ≤ IntKind.i64.wrap ((↑y1.length : Int) - (1 : Int))) ∧ (IntKind.i64.wrap ((↑y1.length : Int) - (1 : Int)) < (↑y1.length : Int)) then
  if ((f_u56 k (y1.getD (IntKind.i64.wrap ((↑y1.length : Int) - 1)).toNat T0.dflt) (IntKind.i64.wrap ((y1.getD (IntKind.i64.wrap ((↑y1.length : Int) - 1)).toNat T0.dflt).2.1 - 1))).isSome = true) then
  bif (IntKind.i64.wrap (y0.1 - v_u56 k (y1.getD (IntKind.i64.wrap ((↑y1.length : Int) - (1 : Int))).toNat T0.dflt) (IntKind.i64.wrap ((y1.getD (IntKind.i64.wrap ((↑y1.length : Int) - (1 : Int))).toNat T0.dflt).2.1 - (1 : Int)))) != (1 : Int) && IntKind.i64.wrap (y0.1 - v_u56 k (y1.getD (IntKind.i64.wrap ((↑y1.length : Int) - (1 : Int))).toNat T0.dflt) (IntKind.i64.wrap ((y1.getD (IntKind.i64.wrap ((↑y1.length : Int) - (1 : Int))).toNat T0.dflt).2.1 - (1 : Int)))) != (-1 : Int) || decide ((y1.getD (IntKind.i64.wrap ((↑y1.length : Int) - (1 : Int))).toNat T0.dflt).2.1 > (1 : Int)) && (! (y1.getD (IntKind.i64.wrap ((↑y1.length : Int) - (1 : Int))).toNat T0.dflt).2.2 == (IntKind.i64.wrap (y0.1 - v_u56 k (y1.getD (IntKind.i64.wrap ((↑y1.length : Int) - (1 : Int))).toNat T0.dflt) (IntKind.i64.wrap ((y1.getD (IntKind.i64.wrap ((↑y1.length : Int) - (1 : Int))).toNat T0.dflt).2.1 - (1 : Int)))) == (-1 : Int)))) then
  if ((f_u54 k y0 0 y0.2.1).isSome = true) ∧ ((y1.length + [v_u54 k y0 (0 : Int) y0.2.1].length) * (24 : Nat) ≤ (140737488355328 : Nat)) then
  some (y1 ++ [v_u54 k y0 0 y0.2.1])
  else none
  else
  bif (decide (y0.2.1 > (1 : Int)) && (!y0.2.2 == (IntKind.i64.wrap (y0.1 - v_u56 k (y1.getD (IntKind.i64.wrap ((↑y1.length : Int) - (1 : Int))).toNat T0.dflt) (IntKind.i64.wrap ((y1.getD (IntKind.i64.wrap ((↑y1.length : Int) - (1 : Int))).toNat T0.dflt).2.1 - (1 : Int)))) == (-1 : Int)))) then
  if ((0 : Int) ≤ IntKind.i64.wrap ((↑y1.length : Int) - (1 : Int))) ∧ (IntKind.i64.wrap ((↑y1.length : Int) - (1 : Int)) < (↑y1.length : Int)) then
  bif ((1 : Int) == y0.2.1) then
  some (y1.set (IntKind.i64.wrap ((↑y1.length : Int) - 1)).toNat ((y1.getD (IntKind.i64.wrap ((↑y1.length : Int) - 1)).toNat T0.dflt).1, IntKind.i64.wrap ((y1.getD (IntKind.i64.wrap ((↑y1.length : Int) - 1)).toNat T0.dflt).2.1 + 1), IntKind.i64.wrap (y0.1 - v_u56 k (y1.getD (IntKind.i64.wrap ((↑y1.length : Int) - 1)).toNat T0.dflt) (IntKind.i64.wrap ((y1.getD (IntKind.i64.wrap ((↑y1.length : Int) - 1)).toNat T0.dflt).2.1 - 1))) == (-1)))
  else
  if ((f_u54 k y0 1 (IntKind.i64.wrap (y0.2.1 - 1))).isSome = true) then
  f_u59_2 k j ((v_u54 k y0 1 (IntKind.i64.wrap (y0.2.1 - 1)))) ((y1.set (IntKind.i64.wrap ((↑y1.length : Int) - 1)).toNat ((y1.getD (IntKind.i64.wrap ((↑y1.length : Int) - 1)).toNat T0.dflt).1, IntKind.i64.wrap ((y1.getD (IntKind.i64.wrap ((↑y1.length : Int) - 1)).toNat T0.dflt).2.1 + 1), IntKind.i64.wrap (y0.1 - v_u56 k (y1.getD (IntKind.i64.wrap ((↑y1.length : Int) - 1)).toNat T0.dflt) (IntKind.i64.wrap ((y1.getD (IntKind.i64.wrap ((↑y1.length : Int) - 1)).toNat T0.dflt).2.1 - 1))) == (-1))))
  else none
  else none
  else
  if ((0 : Int) ≤ IntKind.i64.wrap ((↑y1.length : Int) - (1 : Int))) ∧ (IntKind.i64.wrap ((↑y1.length : Int) - (1 : Int)) < (↑y1.length : Int)) then
  bif (y0.2.1 == y0.2.1) then
  some (y1.set (IntKind.i64.wrap ((↑y1.length : Int) - 1)).toNat ((y1.getD (IntKind.i64.wrap ((↑y1.length : Int) - 1)).toNat T0.dflt).1, IntKind.i64.wrap ((y1.getD (IntKind.i64.wrap ((↑y1.length : Int) - 1)).toNat T0.dflt).2.1 + y0.2.1), IntKind.i64.wrap (y0.1 - v_u56 k (y1.getD (IntKind.i64.wrap ((↑y1.length : Int) - 1)).toNat T0.dflt) (IntKind.i64.wrap ((y1.getD (IntKind.i64.wrap ((↑y1.length : Int) - 1)).toNat T0.dflt).2.1 - 1))) == (-1)))
  else
  if ((f_u54 k y0 y0.2.1 (IntKind.i64.wrap (y0.2.1 - y0.2.1))).isSome = true) then
  f_u59_2 k j ((v_u54 k y0 y0.2.1 (IntKind.i64.wrap (y0.2.1 - y0.2.1)))) ((y1.set (IntKind.i64.wrap ((↑y1.length : Int) - 1)).toNat ((y1.getD (IntKind.i64.wrap ((↑y1.length : Int) - 1)).toNat T0.dflt).1, IntKind.i64.wrap ((y1.getD (IntKind.i64.wrap ((↑y1.length : Int) - 1)).toNat T0.dflt).2.1 + y0.2.1), IntKind.i64.wrap (y0.1 - v_u56 k (y1.getD (IntKind.i64.wrap ((↑y1.length : Int) - 1)).toNat T0.dflt) (IntKind.i64.wrap ((y1.getD (IntKind.i64.wrap ((↑y1.length : Int) - 1)).toNat T0.dflt).2.1 - 1))) == (-1))))
  else none
  else none
  else none
  else none
  else
  some y1
def f_u59 (k : Nat) (m_ : List (T0).T) (r_ : T0.T) : Option R_u59 :=
  if (((0 : Nat) + m_.length) * (24 : Nat) ≤ (140737488355328 : Nat)) then
  f_u59_2 k k r_ (([] ++ m_))
  else none
def v_u59 (k : Nat) (m_ : List (T0).T) (r_ : T0.T) : R_u59 := (f_u59 k m_ r_).getD []
def ke_u59 (k : Nat) : Ke := (74, fun xs => match xs with
  | [_, _] => some [false, false]
  | _ => none, fun xs bs => match xs, bs with
  | [.r (.ro tm__ qm_), .agg qr_], [] => (castL tm__ T0 qm_).bind fun m_ => (decS [] T0 qr_).bind fun r_ => some (.one (res_u59 (v_u59 k m_ r_), bo_u59 m_ r_ (v_u59 k m_ r_)))
  | _, _ => none)
def cs_u59 : List (Nat × List Cmd) := [(2, [.autoB [3, 5] false []])]
abbrev E_u59 (m_ : List (T0).T) (r_ : T0.T) (todo : List Item) (st : St) (o : Option R_u59) : Prop := ∀ r, o = some r → Ev Tryz.prog Tryz.f74 0 todo st (res_u59 r) (bo_u59 m_ r_ r)
theorem ev_u59 (k : Nat) (m_ : List (T0).T) (r_ : T0.T) : ∀ j, (∀ (y0 : T0.T) (y1 : List (T0).T), E_u59 m_ r_ (placeAt Tryz.f74 2) (st_u59_2 y0 y1) (f_u59_2 k j y0 y1))
  | 0 => fun _ _ _ h => (nomatch h)
  | j + 1 => by
    have ih := @ev_u59 k m_ r_ j
    · intro y0 y1 r h
      rw [f_u59_2] at h
      exact go (mkK [ke_u56 k, ke_u54 k]) [] cs_u59 [.frz 4 false (RTy.list T0), .autoB [4] true []] (gT h (fun c h => gT h (fun c h => gN h (fun q => conjC (cc_u54 q.1) (conjC q.2 conj0)) fun h => gL h) fun c h => gN2 h fun h => gN1 h (fun q => cc_u56 q) fun h => gT h (fun c h => gN h (fun q => conjC (cc_u54 q.1) (conjC q.2 conj0)) fun h => gL h) fun c h => gT h (fun c h => gN2 h fun h => gT h (fun c h => gL h) fun c h => gN1 h (fun q => cc_u54 q) fun h => gC h 2 (ih _ _ _)) fun c h => gN2 h fun h => gT h (fun c h => gL h) fun c h => gN1 h (fun q => cc_u54 q) fun h => gC h 2 (ih _ _ _)) fun c h => gL h) (by kernel_rfl)
theorem of_u59 (k : Nat) (m_ : List (T0).T) (r_ : T0.T) (r : R_u59) (h : f_u59 k m_ r_ = some r) : C_u59 m_ r_ r := by
  refine CC.of (fn := Tryz.f74) (by kernel_rfl) (by kernel_rfl) (by kernel_rfl) (by kernel_rfl) ?_
  unfold f_u59 at h
  exact go (mkK [ke_u56 k, ke_u54 k]) [] cs_u59 [.frz 4 false (RTy.list T0), .autoB [4] true []] (gN1 h id fun h => gC h 2 ((ev_u59 k m_ r_ k) _ _ _)) (by kernel_rfl)
theorem cc_u59 {k : Nat} {m_ : List (T0).T} {r_ : T0.T} (h : (f_u59 k m_ r_).isSome = true) : C_u59 m_ r_ (v_u59 k m_ r_) := ccG (Φ := C_u59 m_ r_) h (of_u59 k m_ r_)
abbrev R_u58 : Type := List (T0).T × Int
def res_u58 (r : R_u58) : AV := .tup [.r (.ro T0 r.1), .r (.v (.int .i64 r.2))]
def bo_u58 (m_ : List (T0).T) (r : R_u58) : List (Nat × Blk) := []
def args_u58 (m_ : List (T0).T) : List AV := [.r (.ro T0 m_)]
def bin_u58 (m_ : List (T0).T) : List Blk := []
abbrev C_u58 (m_ : List (T0).T) (r : R_u58) : Prop := CC Tryz.prog 75 (args_u58 m_) (bin_u58 m_) (res_u58 r) (bo_u58 m_ r)
def f_u58 (k : Nat) (m_ : List (T0).T) : Option R_u58 :=
  bif (decide ((↑m_.length : Int) > (256 : Int))) then
  some (([], 8))
  else
  some ((m_, 0))
def v_u58 (k : Nat) (m_ : List (T0).T) : R_u58 := (f_u58 k m_).getD ([], 0)
def ke_u58 (k : Nat) : Ke := (75, fun xs => match xs with
  | [_] => some [false]
  | _ => none, fun xs bs => match xs, bs with
  | [.r (.ro tm__ qm_)], [] => (castL tm__ T0 qm_).bind fun m_ => some (.one (res_u58 (v_u58 k m_), bo_u58 m_ (v_u58 k m_)))
  | _, _ => none)
theorem of_u58 (k : Nat) (m_ : List (T0).T) (r : R_u58) (h : f_u58 k m_ = some r) : C_u58 m_ r := by
  refine CC.of (fn := Tryz.f75) (by kernel_rfl) (by kernel_rfl) (by kernel_rfl) (by kernel_rfl) ?_
  unfold f_u58 at h
  exact go (mkK []) [] [] [.frz 2 false (RTy.list T0), .autoB [2, 3] true []] (gT h (fun c h => gL h) fun c h => gL h) (by kernel_rfl)
theorem cc_u58 {k : Nat} {m_ : List (T0).T} (h : (f_u58 k m_).isSome = true) : C_u58 m_ (v_u58 k m_) := ccG (Φ := C_u58 m_) h (of_u58 k m_)
abbrev R_u50 : Type := List (T0).T × Int
def res_u50 (r : R_u50) : AV := .tup [.r (.ro T0 r.1), .r (.v (.int .i64 r.2))]
def bo_u50 (inner_ : List (T0).T) (outer_ : List (T0).T) (r : R_u50) : List (Nat × Blk) := []
def args_u50 (inner_ : List (T0).T) (outer_ : List (T0).T) : List AV := [.r (.ro T0 inner_), .r (.ro T0 outer_)]
def bin_u50 (inner_ : List (T0).T) (outer_ : List (T0).T) : List Blk := []
abbrev C_u50 (inner_ : List (T0).T) (outer_ : List (T0).T) (r : R_u50) : Prop := CC Tryz.prog 55 (args_u50 inner_ outer_) (bin_u50 inner_ outer_) (res_u50 r) (bo_u50 inner_ outer_ r)
def st_u50_9 (y0 : List (T0).T) (y1 : List (T0).T) (y2 : List (T0).T) (y3 : Int) : St := ⟨mkS 101 [(0, .r (.ro T0 y0)), (1, .r (.ro T0 y1)), (8, .r (.ro T0 y2)), (9, .r (.v (.int .i64 y3)))], []⟩
def st_u50_12 (y0 : List (T0).T) (y1 : List (T0).T) (y2 : List (T0).T) (y3 : Int) (y4 : T0.T) : St := ⟨mkS 101 [(0, .r (.ro T0 y0)), (1, .r (.ro T0 y1)), (8, .r (.ro T0 y2)), (9, .r (.v (.int .i64 y3))), (10, .ptr 1000000 0 0)], [(1000000, 0, .var 54 (rvs (enc T0 y4)))]⟩
mutual
def f_u50_9 (k : Nat) : Nat → List (T0).T → List (T0).T → List (T0).T → Int → Option R_u50
  | 0, _, _, _, _ => none
  | j + 1, y0, y1, y2, y3 =>
  bif (decide (y3 < (↑y0.length : Int))) then
  if (0 ≤ y3) ∧ (y3 < (↑y0.length : Int)) then
  f_u50_12 k j y0 y1 y2 y3 ((y0.getD y3.toNat T0.dflt))
  else none
  else
  if ((f_u58 k y2).isSome = true) then
  some (((v_u58 k y2).1, (v_u58 k y2).2))
  else none
def f_u50_12 (k : Nat) : Nat → List (T0).T → List (T0).T → List (T0).T → Int → T0.T → Option R_u50
  | 0, _, _, _, _, _ => none
  | j + 1, y0, y1, y2, y3, y4 =>
  bif (decide (y4.2.1 > (0 : Int))) then
  if ((f_u60 k y1 y4.1).isSome = true) then
  bif (decide ((v_u60 k y1 y4.1).1 < (0 : Int))) then
  some (([], 21))
  else
  if ((0 : Int) ≤ (v_u60 k y1 y4.1).1) ∧ ((v_u60 k y1 y4.1).1 < (↑y1.length : Int)) then
  bif y4.2.2 then
  if ((f_u56 k (y1.getD (v_u60 k y1 y4.1).1.toNat T0.dflt) (v_u60 k y1 y4.1).2).isSome = true) ∧ ((f_u59 k y2 (v_u56 k (y1.getD (v_u60 k y1 y4.1).1.toNat T0.dflt) (v_u60 k y1 y4.1).2, if IntKind.i64.wrap ((v_u60 k y1 y4.1).2 + 1) < y4.2.1 then IntKind.i64.wrap ((v_u60 k y1 y4.1).2 + 1) else y4.2.1, ! (y1.getD (v_u60 k y1 y4.1).1.toNat T0.dflt).2.2 && decide ((if IntKind.i64.wrap ((v_u60 k y1 y4.1).2 + 1) < y4.2.1 then IntKind.i64.wrap ((v_u60 k y1 y4.1).2 + 1) else y4.2.1) > 1))).isSome = true) then
  bif ((if IntKind.i64.wrap ((v_u60 k y1 y4.1).2 + (1 : Int)) < y4.2.1 then IntKind.i64.wrap ((v_u60 k y1 y4.1).2 + (1 : Int)) else y4.2.1) == y4.2.1) then
  f_u50_9 k j y0 y1 ((v_u59 k y2 (v_u56 k (y1.getD (v_u60 k y1 y4.1).1.toNat T0.dflt) (v_u60 k y1 y4.1).2, if IntKind.i64.wrap ((v_u60 k y1 y4.1).2 + 1) < y4.2.1 then IntKind.i64.wrap ((v_u60 k y1 y4.1).2 + 1) else y4.2.1, ! (y1.getD (v_u60 k y1 y4.1).1.toNat T0.dflt).2.2 && decide ((if IntKind.i64.wrap ((v_u60 k y1 y4.1).2 + 1) < y4.2.1 then IntKind.i64.wrap ((v_u60 k y1 y4.1).2 + 1) else y4.2.1) > 1)))) ((IntKind.i64.wrap (y3 + 1)))
  else
  if ((f_u56 k y4 (if IntKind.i64.wrap ((v_u60 k y1 y4.1).2 + 1) < y4.2.1 then IntKind.i64.wrap ((v_u60 k y1 y4.1).2 + 1) else y4.2.1)).isSome = true) then
  f_u50_12 k j y0 y1 ((v_u59 k y2 (v_u56 k (y1.getD (v_u60 k y1 y4.1).1.toNat T0.dflt) (v_u60 k y1 y4.1).2, if IntKind.i64.wrap ((v_u60 k y1 y4.1).2 + 1) < y4.2.1 then IntKind.i64.wrap ((v_u60 k y1 y4.1).2 + 1) else y4.2.1, ! (y1.getD (v_u60 k y1 y4.1).1.toNat T0.dflt).2.2 && decide ((if IntKind.i64.wrap ((v_u60 k y1 y4.1).2 + 1) < y4.2.1 then IntKind.i64.wrap ((v_u60 k y1 y4.1).2 + 1) else y4.2.1) > 1)))) y3 ((v_u56 k y4 (if IntKind.i64.wrap ((v_u60 k y1 y4.1).2 + 1) < y4.2.1 then IntKind.i64.wrap ((v_u60 k y1 y4.1).2 + 1) else y4.2.1), (IntKind.i64.wrap (y4.2.1 - if IntKind.i64.wrap ((v_u60 k y1 y4.1).2 + 1) < y4.2.1 then IntKind.i64.wrap ((v_u60 k y1 y4.1).2 + 1) else y4.2.1), y4.2.2)))
  else none
  else none
  else
  if ((f_u56 k (y1.getD (v_u60 k y1 y4.1).1.toNat T0.dflt) (v_u60 k y1 y4.1).2).isSome = true) ∧ ((f_u59 k y2 (v_u56 k (y1.getD (v_u60 k y1 y4.1).1.toNat T0.dflt) (v_u60 k y1 y4.1).2, if IntKind.i64.wrap ((y1.getD (v_u60 k y1 y4.1).1.toNat T0.dflt).2.1 - (v_u60 k y1 y4.1).2) < y4.2.1 then IntKind.i64.wrap ((y1.getD (v_u60 k y1 y4.1).1.toNat T0.dflt).2.1 - (v_u60 k y1 y4.1).2) else y4.2.1, (y1.getD (v_u60 k y1 y4.1).1.toNat T0.dflt).2.2 && decide ((if IntKind.i64.wrap ((y1.getD (v_u60 k y1 y4.1).1.toNat T0.dflt).2.1 - (v_u60 k y1 y4.1).2) < y4.2.1 then IntKind.i64.wrap ((y1.getD (v_u60 k y1 y4.1).1.toNat T0.dflt).2.1 - (v_u60 k y1 y4.1).2) else y4.2.1) > 1))).isSome = true) then
  bif ((if IntKind.i64.wrap ((y1.getD (v_u60 k y1 y4.1).1.toNat T0.dflt).2.1 - (v_u60 k y1 y4.1).2) < y4.2.1 then IntKind.i64.wrap ((y1.getD (v_u60 k y1 y4.1).1.toNat T0.dflt).2.1 - (v_u60 k y1 y4.1).2) else y4.2.1) == y4.2.1) then
  f_u50_9 k j y0 y1 ((v_u59 k y2 (v_u56 k (y1.getD (v_u60 k y1 y4.1).1.toNat T0.dflt) (v_u60 k y1 y4.1).2, if IntKind.i64.wrap ((y1.getD (v_u60 k y1 y4.1).1.toNat T0.dflt).2.1 - (v_u60 k y1 y4.1).2) < y4.2.1 then IntKind.i64.wrap ((y1.getD (v_u60 k y1 y4.1).1.toNat T0.dflt).2.1 - (v_u60 k y1 y4.1).2) else y4.2.1, (y1.getD (v_u60 k y1 y4.1).1.toNat T0.dflt).2.2 && decide ((if IntKind.i64.wrap ((y1.getD (v_u60 k y1 y4.1).1.toNat T0.dflt).2.1 - (v_u60 k y1 y4.1).2) < y4.2.1 then IntKind.i64.wrap ((y1.getD (v_u60 k y1 y4.1).1.toNat T0.dflt).2.1 - (v_u60 k y1 y4.1).2) else y4.2.1) > 1)))) ((IntKind.i64.wrap (y3 + 1)))
  else
  if ((f_u56 k y4 (if IntKind.i64.wrap ((y1.getD (v_u60 k y1 y4.1).1.toNat T0.dflt).2.1 - (v_u60 k y1 y4.1).2) < y4.2.1 then IntKind.i64.wrap ((y1.getD (v_u60 k y1 y4.1).1.toNat T0.dflt).2.1 - (v_u60 k y1 y4.1).2) else y4.2.1)).isSome = true) then
  f_u50_12 k j y0 y1 ((v_u59 k y2 (v_u56 k (y1.getD (v_u60 k y1 y4.1).1.toNat T0.dflt) (v_u60 k y1 y4.1).2, if IntKind.i64.wrap ((y1.getD (v_u60 k y1 y4.1).1.toNat T0.dflt).2.1 - (v_u60 k y1 y4.1).2) < y4.2.1 then IntKind.i64.wrap ((y1.getD (v_u60 k y1 y4.1).1.toNat T0.dflt).2.1 - (v_u60 k y1 y4.1).2) else y4.2.1, (y1.getD (v_u60 k y1 y4.1).1.toNat T0.dflt).2.2 && decide ((if IntKind.i64.wrap ((y1.getD (v_u60 k y1 y4.1).1.toNat T0.dflt).2.1 - (v_u60 k y1 y4.1).2) < y4.2.1 then IntKind.i64.wrap ((y1.getD (v_u60 k y1 y4.1).1.toNat T0.dflt).2.1 - (v_u60 k y1 y4.1).2) else y4.2.1) > 1)))) y3 ((v_u56 k y4 (if IntKind.i64.wrap ((y1.getD (v_u60 k y1 y4.1).1.toNat T0.dflt).2.1 - (v_u60 k y1 y4.1).2) < y4.2.1 then IntKind.i64.wrap ((y1.getD (v_u60 k y1 y4.1).1.toNat T0.dflt).2.1 - (v_u60 k y1 y4.1).2) else y4.2.1), (IntKind.i64.wrap (y4.2.1 - if IntKind.i64.wrap ((y1.getD (v_u60 k y1 y4.1).1.toNat T0.dflt).2.1 - (v_u60 k y1 y4.1).2) < y4.2.1 then IntKind.i64.wrap ((y1.getD (v_u60 k y1 y4.1).1.toNat T0.dflt).2.1 - (v_u60 k y1 y4.1).2) else y4.2.1), y4.2.2)))
  else none
  else none
  else none
  else none
  else
  f_u50_9 k j y0 y1 y2 ((IntKind.i64.wrap (y3 + 1)))
end
def f_u50 (k : Nat) (inner_ : List (T0).T) (outer_ : List (T0).T) : Option R_u50 :=
  if ((f_u49 k inner_).isSome = true) then
  bif (v_u49 k inner_ != (0 : Int)) then
  some (([], v_u49 k inner_))
  else
  if ((f_u49 k outer_).isSome = true) then
  bif (v_u49 k outer_ != (0 : Int)) then
  some (([], v_u49 k outer_))
  else
  f_u50_9 k k inner_ outer_ ([]) 0
  else none
  else none
def v_u50 (k : Nat) (inner_ : List (T0).T) (outer_ : List (T0).T) : R_u50 := (f_u50 k inner_ outer_).getD ([], 0)
def ke_u50 (k : Nat) : Ke := (55, fun xs => match xs with
  | [_, _] => some [false, false]
  | _ => none, fun xs bs => match xs, bs with
  | [.r (.ro tinner__ qinner_), .r (.ro touter__ qouter_)], [] => (castL tinner__ T0 qinner_).bind fun inner_ => (castL touter__ T0 qouter_).bind fun outer_ => some (.one (res_u50 (v_u50 k inner_ outer_), bo_u50 inner_ outer_ (v_u50 k inner_ outer_)))
  | _, _ => none)
def K_u50 (k : Nat) : Calld := mkK [ke_u49 k, ke_u56 k, ke_u60 k, ke_u59 k, ke_u58 k]
def cs_u50 : List (Nat × List Cmd) := [(9, [.frz 8 false (RTy.list T0), .autoB [0, 1, 8, 9] false []]), (12, [.autoB [0, 1, 8, 9, 10] false []])]
abbrev E_u50 (inner_ : List (T0).T) (outer_ : List (T0).T) (todo : List Item) (st : St) (o : Option R_u50) : Prop := ∀ r, o = some r → Ev Tryz.prog Tryz.f55 0 todo st (res_u50 r) (bo_u50 inner_ outer_ r)
theorem ev_u50 (k : Nat) (inner_ : List (T0).T) (outer_ : List (T0).T) : ∀ j, (∀ (y0 : List (T0).T) (y1 : List (T0).T) (y2 : List (T0).T) (y3 : Int), E_u50 inner_ outer_ (placeAt Tryz.f55 9) (st_u50_9 y0 y1 y2 y3) (f_u50_9 k j y0 y1 y2 y3)) ∧ (∀ (y0 : List (T0).T) (y1 : List (T0).T) (y2 : List (T0).T) (y3 : Int) (y4 : T0.T), E_u50 inner_ outer_ (placeAt Tryz.f55 12) (st_u50_12 y0 y1 y2 y3 y4) (f_u50_12 k j y0 y1 y2 y3 y4))
  | 0 => ⟨fun _ _ _ _ _ h => (nomatch h), fun _ _ _ _ _ _ h => (nomatch h)⟩
  | j + 1 => by
    have ih := @ev_u50 k inner_ outer_ j
    refine ⟨?_, ?_⟩
    · intro y0 y1 y2 y3 r h
      rw [f_u50_9] at h
      exact go (K_u50 k) [] cs_u50 [.frz 4 false (RTy.list T0), .autoB [4, 5] true []] (gT h (fun c h => gN2 h fun h => gC h 12 (ih.2 _ _ _ _ _ _)) fun c h => gN1 h (fun q => cc_u58 q) fun h => gL h) (by kernel_rfl)
    · intro y0 y1 y2 y3 y4 r h
      rw [f_u50_12] at h
      exact go (K_u50 k) [] cs_u50 [.frz 4 false (RTy.list T0), .autoB [4, 5] true []] (gT h (fun c h => gN1 h (fun q => cc_u60 q) fun h => gT h (fun c h => gL h) fun c h => gN2 h fun h => gT h (fun c h => gN h (fun q => conjC (cc_u56 q.1) (conjC (cc_u59 q.2) conj0)) fun h => gT h (fun c h => gC h 9 (ih.1 _ _ _ _ _)) fun c h => gN1 h (fun q => cc_u56 q) fun h => gC h 12 (ih.2 _ _ _ _ _ _)) fun c h => gN h (fun q => conjC (cc_u56 q.1) (conjC (cc_u59 q.2) conj0)) fun h => gT h (fun c h => gC h 9 (ih.1 _ _ _ _ _)) fun c h => gN1 h (fun q => cc_u56 q) fun h => gC h 12 (ih.2 _ _ _ _ _ _)) fun c h => gC h 9 (ih.1 _ _ _ _ _)) (by kernel_rfl)
theorem of_u50 (k : Nat) (inner_ : List (T0).T) (outer_ : List (T0).T) (r : R_u50) (h : f_u50 k inner_ outer_ = some r) : C_u50 inner_ outer_ r := by
  refine CC.of (fn := Tryz.f55) (by kernel_rfl) (by kernel_rfl) (by kernel_rfl) (by kernel_rfl) ?_
  unfold f_u50 at h
  exact go (K_u50 k) [] cs_u50 [.frz 4 false (RTy.list T0), .autoB [4, 5] true []] (gN1 h (fun q => cc_u49 q) fun h => gT h (fun c h => gL h) fun c h => gN1 h (fun q => cc_u49 q) fun h => gT h (fun c h => gL h) fun c h => gC h 9 ((ev_u50 k inner_ outer_ k).1 _ _ _ _ _)) (by kernel_rfl)
theorem cc_u50 {k : Nat} {inner_ : List (T0).T} {outer_ : List (T0).T} (h : (f_u50 k inner_ outer_).isSome = true) : C_u50 inner_ outer_ (v_u50 k inner_ outer_) := ccG (Φ := C_u50 inner_ outer_) h (of_u50 k inner_ outer_)
abbrev R_u41 : Type := Int
def res_u41 (r : R_u41) : AV := .r (.v (.int .i64 r))
def bo_u41 (l_ : List (T15).T) (r : R_u41) : List (Nat × Blk) := []
def args_u41 (l_ : List (T15).T) : List AV := [.r (.ro T15 l_)]
def bin_u41 (l_ : List (T15).T) : List Blk := []
abbrev C_u41 (l_ : List (T15).T) (r : R_u41) : Prop := CC Tryz.prog 99 (args_u41 l_) (bin_u41 l_) (res_u41 r) (bo_u41 l_ r)
def st_u41_4 (y0 : List (T15).T) (y1 : Int) : St := ⟨mkS 40 [(0, .r (.ro T15 y0)), (3, .r (.v (.int .i64 y1)))], []⟩
def f_u41_4 (k : Nat) : Nat → List (T15).T → Int → Option R_u41
  | 0, _, _ => none
  | j + 1, y0, y1 =>
  bif (decide (y1 < (↑y0.length : Int))) then
  if (0 ≤ y1) ∧ (y1 < (↑y0.length : Int)) ∧ (decide ((y0.getD y1.toNat T15.dflt).1 < (0 : Int)) = false → 0 ≤ y1) ∧ (decide ((y0.getD y1.toNat T15.dflt).1 < (0 : Int)) = false → y1 < (↑y0.length : Int)) ∧ (decide ((y0.getD y1.toNat T15.dflt).1 < (0 : Int)) = false → 0 ≤ y1) ∧ (decide ((y0.getD y1.toNat T15.dflt).1 < (0 : Int)) = false → y1 < (↑y0.length : Int)) ∧ ((decide ((y0.getD y1.toNat T15.dflt).1 < (0 : Int)) || decide ((y0.getD y1.toNat T15.dflt).1 > (y0.getD y1.toNat T15.dflt).2)) = false → 0 ≤ y1) ∧ ((decide ((y0.getD y1.toNat T15.dflt).1 < (0 : Int)) || decide ((y0.getD y1.toNat T15.dflt).1 > (y0.getD y1.toNat T15.dflt).2)) = false → y1 < (↑y0.length : Int)) then
  bif (decide ((y0.getD y1.toNat T15.dflt).1 < (0 : Int)) || decide ((y0.getD y1.toNat T15.dflt).1 > (y0.getD y1.toNat T15.dflt).2) || decide ((y0.getD y1.toNat T15.dflt).2 > (17179869184 : Int))) then
  some 1
  else
  f_u41_4 k j y0 ((IntKind.i64.wrap (y1 + 1)))
  else none
  else
  some 0
def f_u41 (k : Nat) (l_ : List (T15).T) : Option R_u41 :=
  bif (decide ((↑l_.length : Int) > (256 : Int))) then
  some 8
  else
  f_u41_4 k k l_ 0
def v_u41 (k : Nat) (l_ : List (T15).T) : R_u41 := (f_u41 k l_).getD 0
def ke_u41 (k : Nat) : Ke := (99, fun xs => match xs with
  | [_] => some [false]
  | _ => none, fun xs bs => match xs, bs with
  | [.r (.ro tl__ ql_)], [] => (castL tl__ T15 ql_).bind fun l_ => some (.one (res_u41 (v_u41 k l_), bo_u41 l_ (v_u41 k l_)))
  | _, _ => none)
def cs_u41 : List (Nat × List Cmd) := [(4, [.autoB [0, 3] false []])]
abbrev E_u41 (l_ : List (T15).T) (todo : List Item) (st : St) (o : Option R_u41) : Prop := ∀ r, o = some r → Ev Tryz.prog Tryz.f99 0 todo st (res_u41 r) (bo_u41 l_ r)
theorem ev_u41 (k : Nat) (l_ : List (T15).T) : ∀ j, (∀ (y0 : List (T15).T) (y1 : Int), E_u41 l_ (placeAt Tryz.f99 4) (st_u41_4 y0 y1) (f_u41_4 k j y0 y1))
  | 0 => fun _ _ _ h => (nomatch h)
  | j + 1 => by
    have ih := @ev_u41 k l_ j
    · intro y0 y1 r h
      rw [f_u41_4] at h
      exact go (mkK []) [] cs_u41 [.autoB [2] true []] (gT h (fun c h => gN h (fun q => conjC q.1 (conjC q.2.1 (conjC q.2.2.1 (conjC q.2.2.2.1 (conjC q.2.2.2.2.1 (conjC q.2.2.2.2.2.1 (conjC q.2.2.2.2.2.2.1 (conjC q.2.2.2.2.2.2.2 conj0)))))))) fun h => gT h (fun c h => gL h) fun c h => gC h 4 (ih _ _ _)) fun c h => gL h) (by kernel_rfl)
theorem of_u41 (k : Nat) (l_ : List (T15).T) (r : R_u41) (h : f_u41 k l_ = some r) : C_u41 l_ r := by
  refine CC.of (fn := Tryz.f99) (by kernel_rfl) (by kernel_rfl) (by kernel_rfl) (by kernel_rfl) ?_
  unfold f_u41 at h
  exact go (mkK []) [] cs_u41 [.autoB [2] true []] (gT h (fun c h => gL h) fun c h => gC h 4 ((ev_u41 k l_ k) _ _ _)) (by kernel_rfl)
theorem cc_u41 {k : Nat} {l_ : List (T15).T} (h : (f_u41 k l_).isSome = true) : C_u41 l_ (v_u41 k l_) := ccG (Φ := C_u41 l_) h (of_u41 k l_)
abbrev R_u48 : Type := List (I).T
def res_u48 (r : R_u48) : AV := .r (.ro I r)
def bo_u48 (l_ : List (I).T) (n_ : Int) (r : R_u48) : List (Nat × Blk) := []
def args_u48 (l_ : List (I).T) (n_ : Int) : List AV := [.r (.ro I l_), .r (.v (.int .i64 n_))]
def bin_u48 (l_ : List (I).T) (n_ : Int) : List Blk := []
abbrev C_u48 (l_ : List (I).T) (n_ : Int) (r : R_u48) : Prop := CC Tryz.prog 129 (args_u48 l_ n_) (bin_u48 l_ n_) (res_u48 r) (bo_u48 l_ n_ r)
def st_u48_2 (y0 : List (I).T) (y1 : Int) (y2 : Int) : St := ⟨mkS 48 [(0, .r (.ro I y0)), (1, .r (.v (.int .i64 y1))), (5, .r (.v (.int .i64 y2)))], []⟩
def f_u48_2 (k : Nat) : Nat → List (I).T → Int → Int → Option R_u48
  | 0, _, _, _ => none
  | j + 1, y0, y1, y2 =>
  if (decide (y2 < (↑y0.length : Int)) = true → 0 ≤ y2) ∧ (decide (y2 < (↑y0.length : Int)) = true → y2 < (↑y0.length : Int)) then
  bif (decide (y2 < (↑y0.length : Int)) && decide (y0.getD y2.toNat I.dflt < y1)) then
  f_u48_2 k j y0 y1 ((IntKind.i64.wrap (y2 + 1)))
  else
  if (decide (y2 < (↑y0.length : Int)) = true → 0 ≤ y2) ∧ (decide (y2 < (↑y0.length : Int)) = true → y2 < (↑y0.length : Int)) then
  bif (decide (y2 < (↑y0.length : Int)) && y0.getD y2.toNat I.dflt == y1) then
  some y0
  else
  if ((0 : Int) ≤ (0 : Int)) ∧ (0 ≤ y2) ∧ (y2 ≤ (↑y0.length : Int)) ∧ (((0 : Nat) + (List.take (y2.toNat - Int.toNat (0 : Int)) (List.drop (Int.toNat (0 : Int)) y0)).length) * (8 : Nat) ≤ (140737488355328 : Nat)) then
  if ((([] ++ List.take (y2.toNat - Int.toNat (0 : Int)) (List.drop (Int.toNat (0 : Int)) y0)).length + [y1].length) * (8 : Nat) ≤ (140737488355328 : Nat)) then
  if (0 ≤ y2) ∧ (y2 ≤ (↑y0.length : Int)) ∧ ((↑y0.length : Int) ≤ (↑y0.length : Int)) ∧ ((([] ++ List.take (y2.toNat - Int.toNat (0 : Int)) (List.drop (Int.toNat (0 : Int)) y0) ++ [y1]).length + (List.take ((↑y0.length : Int).toNat - y2.toNat) (List.drop y2.toNat y0)).length) * (8 : Nat) ≤ (140737488355328 : Nat)) then
  some ([] ++ List.take (y2.toNat - Int.toNat 0) (List.drop (Int.toNat 0) y0) ++ [y1] ++ List.take ((↑y0.length : Int).toNat - y2.toNat) (List.drop y2.toNat y0))
  else none
  else none
  else none
  else none
  else none
def f_u48 (k : Nat) (l_ : List (I).T) (n_ : Int) : Option R_u48 :=
  f_u48_2 k k l_ n_ 0
def v_u48 (k : Nat) (l_ : List (I).T) (n_ : Int) : R_u48 := (f_u48 k l_ n_).getD []
def ke_u48 (k : Nat) : Ke := (129, fun xs => match xs with
  | [_, _] => some [false, false]
  | _ => none, fun xs bs => match xs, bs with
  | [.r (.ro tl__ ql_), .r (.v (.int .i64 n_))], [] => (castL tl__ I ql_).bind fun l_ => some (.one (res_u48 (v_u48 k l_ n_), bo_u48 l_ n_ (v_u48 k l_ n_)))
  | _, _ => none)
def cs_u48 : List (Nat × List Cmd) := [(2, [.autoB [0, 1, 5] false []])]
abbrev E_u48 (l_ : List (I).T) (n_ : Int) (todo : List Item) (st : St) (o : Option R_u48) : Prop := ∀ r, o = some r → Ev Tryz.prog Tryz.f129 0 todo st (res_u48 r) (bo_u48 l_ n_ r)
theorem ev_u48 (k : Nat) (l_ : List (I).T) (n_ : Int) : ∀ j, (∀ (y0 : List (I).T) (y1 : Int) (y2 : Int), E_u48 l_ n_ (placeAt Tryz.f129 2) (st_u48_2 y0 y1 y2) (f_u48_2 k j y0 y1 y2))
  | 0 => fun _ _ _ _ h => (nomatch h)
  | j + 1 => by
    have ih := @ev_u48 k l_ n_ j
    · intro y0 y1 y2 r h
      rw [f_u48_2] at h
      exact go (mkK []) [] cs_u48 [.frz 4 false (RTy.list I), .autoB [4] true []] (gN2 h fun h => gT h (fun c h => gC h 2 (ih _ _ _ _)) fun c h => gN2 h fun h => gT h (fun c h => gL h) fun c h => gN h (fun q => conjC q.1 (conjC q.2.1 (conjC q.2.2.1 (conjC q.2.2.2 conj0)))) fun h => gN1 h id fun h => gN h (fun q => conjC q.1 (conjC q.2.1 (conjC q.2.2.1 (conjC q.2.2.2 conj0)))) fun h => gL h) (by kernel_rfl)
theorem of_u48 (k : Nat) (l_ : List (I).T) (n_ : Int) (r : R_u48) (h : f_u48 k l_ n_ = some r) : C_u48 l_ n_ r := by
  refine CC.of (fn := Tryz.f129) (by kernel_rfl) (by kernel_rfl) (by kernel_rfl) (by kernel_rfl) ?_
  unfold f_u48 at h
  exact go (mkK []) [] cs_u48 [.frz 4 false (RTy.list I), .autoB [4] true []] (gC h 2 ((ev_u48 k l_ n_ k) _ _ _ _)) (by kernel_rfl)
theorem cc_u48 {k : Nat} {l_ : List (I).T} {n_ : Int} (h : (f_u48 k l_ n_).isSome = true) : C_u48 l_ n_ (v_u48 k l_ n_) := ccG (Φ := C_u48 l_ n_) h (of_u48 k l_ n_)
abbrev R_u47 : Type := List (I).T
def res_u47 (r : R_u47) : AV := .r (.ro I r)
def bo_u47 (a_ : List (T15).T) (b_ : List (T15).T) (r : R_u47) : List (Nat × Blk) := []
def args_u47 (a_ : List (T15).T) (b_ : List (T15).T) : List AV := [.r (.ro T15 a_), .r (.ro T15 b_)]
def bin_u47 (a_ : List (T15).T) (b_ : List (T15).T) : List Blk := []
abbrev C_u47 (a_ : List (T15).T) (b_ : List (T15).T) (r : R_u47) : Prop := CC Tryz.prog 113 (args_u47 a_ b_) (bin_u47 a_ b_) (res_u47 r) (bo_u47 a_ b_ r)
def st_u47_3 (y0 : List (T15).T) (y1 : List (T15).T) (y2 : List (I).T) (y3 : Int) : St := ⟨mkS 47 [(0, .r (.ro T15 y0)), (1, .r (.ro T15 y1)), (5, .r (.ro I y2)), (6, .r (.v (.int .i64 y3)))], []⟩
def st_u47_7 (y0 : List (T15).T) (y1 : List (I).T) (y2 : Int) : St := ⟨mkS 47 [(1, .r (.ro T15 y0)), (5, .r (.ro I y1)), (7, .r (.v (.int .i64 y2)))], []⟩
mutual
def f_u47_3 (k : Nat) : Nat → List (T15).T → List (T15).T → List (I).T → Int → Option R_u47
  | 0, _, _, _, _ => none
  | j + 1, y0, y1, y2, y3 =>
  bif (decide (y3 < (↑y0.length : Int))) then
  if (0 ≤ y3) ∧ (y3 < (↑y0.length : Int)) ∧ ((f_u48 k y2 (y0.getD y3.toNat T15.dflt).1).isSome = true) ∧ (0 ≤ y3) ∧ (y3 < (↑y0.length : Int)) ∧ ((f_u48 k (v_u48 k y2 (y0.getD y3.toNat T15.dflt).1) (y0.getD y3.toNat T15.dflt).2).isSome = true) then
  f_u47_3 k j y0 y1 ((v_u48 k (v_u48 k y2 (y0.getD y3.toNat T15.dflt).1) (y0.getD y3.toNat T15.dflt).2)) ((IntKind.i64.wrap (y3 + 1)))
  else none
  else
  f_u47_7 k j y1 y2 0
def f_u47_7 (k : Nat) : Nat → List (T15).T → List (I).T → Int → Option R_u47
  | 0, _, _, _ => none
  | j + 1, y0, y1, y2 =>
  bif (decide (y2 < (↑y0.length : Int))) then
  if (0 ≤ y2) ∧ (y2 < (↑y0.length : Int)) ∧ ((f_u48 k y1 (y0.getD y2.toNat T15.dflt).1).isSome = true) ∧ (0 ≤ y2) ∧ (y2 < (↑y0.length : Int)) ∧ ((f_u48 k (v_u48 k y1 (y0.getD y2.toNat T15.dflt).1) (y0.getD y2.toNat T15.dflt).2).isSome = true) then
  f_u47_7 k j y0 ((v_u48 k (v_u48 k y1 (y0.getD y2.toNat T15.dflt).1) (y0.getD y2.toNat T15.dflt).2)) ((IntKind.i64.wrap (y2 + 1)))
  else none
  else
  some y1
end
def f_u47 (k : Nat) (a_ : List (T15).T) (b_ : List (T15).T) : Option R_u47 :=
  f_u47_3 k k a_ b_ ([]) 0
def v_u47 (k : Nat) (a_ : List (T15).T) (b_ : List (T15).T) : R_u47 := (f_u47 k a_ b_).getD []
def ke_u47 (k : Nat) : Ke := (113, fun xs => match xs with
  | [_, _] => some [false, false]
  | _ => none, fun xs bs => match xs, bs with
  | [.r (.ro ta__ qa_), .r (.ro tb__ qb_)], [] => (castL ta__ T15 qa_).bind fun a_ => (castL tb__ T15 qb_).bind fun b_ => some (.one (res_u47 (v_u47 k a_ b_), bo_u47 a_ b_ (v_u47 k a_ b_)))
  | _, _ => none)
def cs_u47 : List (Nat × List Cmd) := [(3, [.frz 5 false (RTy.list I), .autoB [0, 1, 5, 6] false []]), (7, [.autoB [1, 5, 7] false []])]
abbrev E_u47 (a_ : List (T15).T) (b_ : List (T15).T) (todo : List Item) (st : St) (o : Option R_u47) : Prop := ∀ r, o = some r → Ev Tryz.prog Tryz.f113 0 todo st (res_u47 r) (bo_u47 a_ b_ r)
theorem ev_u47 (k : Nat) (a_ : List (T15).T) (b_ : List (T15).T) : ∀ j, (∀ (y0 : List (T15).T) (y1 : List (T15).T) (y2 : List (I).T) (y3 : Int), E_u47 a_ b_ (placeAt Tryz.f113 3) (st_u47_3 y0 y1 y2 y3) (f_u47_3 k j y0 y1 y2 y3)) ∧ (∀ (y0 : List (T15).T) (y1 : List (I).T) (y2 : Int), E_u47 a_ b_ (placeAt Tryz.f113 7) (st_u47_7 y0 y1 y2) (f_u47_7 k j y0 y1 y2))
  | 0 => ⟨fun _ _ _ _ _ h => (nomatch h), fun _ _ _ _ h => (nomatch h)⟩
  | j + 1 => by
    have ih := @ev_u47 k a_ b_ j
    refine ⟨?_, ?_⟩
    · intro y0 y1 y2 y3 r h
      rw [f_u47_3] at h
      exact go (mkK [ke_u48 k]) [] cs_u47 [.frz 4 false (RTy.list I), .autoB [4] true []] (gT h (fun c h => gN h (fun q => conjC q.1 (conjC q.2.1 (conjC (cc_u48 q.2.2.1) (conjC q.2.2.2.1 (conjC q.2.2.2.2.1 (conjC (cc_u48 q.2.2.2.2.2) conj0)))))) fun h => gC h 3 (ih.1 _ _ _ _ _)) fun c h => gC h 7 (ih.2 _ _ _ _)) (by kernel_rfl)
    · intro y0 y1 y2 r h
      rw [f_u47_7] at h
      exact go (mkK [ke_u48 k]) [] cs_u47 [.frz 4 false (RTy.list I), .autoB [4] true []] (gT h (fun c h => gN h (fun q => conjC q.1 (conjC q.2.1 (conjC (cc_u48 q.2.2.1) (conjC q.2.2.2.1 (conjC q.2.2.2.2.1 (conjC (cc_u48 q.2.2.2.2.2) conj0)))))) fun h => gC h 7 (ih.2 _ _ _ _)) fun c h => gL h) (by kernel_rfl)
theorem of_u47 (k : Nat) (a_ : List (T15).T) (b_ : List (T15).T) (r : R_u47) (h : f_u47 k a_ b_ = some r) : C_u47 a_ b_ r := by
  refine CC.of (fn := Tryz.f113) (by kernel_rfl) (by kernel_rfl) (by kernel_rfl) (by kernel_rfl) ?_
  unfold f_u47 at h
  exact go (mkK [ke_u48 k]) [] cs_u47 [.frz 4 false (RTy.list I), .autoB [4] true []] (gC h 3 ((ev_u47 k a_ b_ k).1 _ _ _ _ _)) (by kernel_rfl)
theorem cc_u47 {k : Nat} {a_ : List (T15).T} {b_ : List (T15).T} (h : (f_u47 k a_ b_).isSome = true) : C_u47 a_ b_ (v_u47 k a_ b_) := ccG (Φ := C_u47 a_ b_) h (of_u47 k a_ b_)
abbrev R_u42 : Type := Bool
def res_u42 (r : R_u42) : AV := .r (.v (.bool r))
def bo_u42 (l_ : List (T15).T) (x_ : Int) (r : R_u42) : List (Nat × Blk) := []
def args_u42 (l_ : List (T15).T) (x_ : Int) : List AV := [.r (.ro T15 l_), .r (.v (.int .i64 x_))]
def bin_u42 (l_ : List (T15).T) (x_ : Int) : List Blk := []
abbrev C_u42 (l_ : List (T15).T) (x_ : Int) (r : R_u42) : Prop := CC Tryz.prog 114 (args_u42 l_ x_) (bin_u42 l_ x_) (res_u42 r) (bo_u42 l_ x_ r)
def st_u42_2 (y0 : List (T15).T) (y1 : Int) (y2 : Int) : St := ⟨mkS 28 [(0, .r (.ro T15 y0)), (1, .r (.v (.int .i64 y1))), (5, .r (.v (.int .i64 y2)))], []⟩
def f_u42_2 (k : Nat) : Nat → List (T15).T → Int → Int → Option R_u42
  | 0, _, _, _ => none
  | j + 1, y0, y1, y2 =>
  bif (decide (y2 < (↑y0.length : Int))) then
  if (0 ≤ y2) ∧ (y2 < (↑y0.length : Int)) ∧ (decide ((y0.getD y2.toNat T15.dflt).1 ≤ y1) = true → 0 ≤ y2) ∧ (decide ((y0.getD y2.toNat T15.dflt).1 ≤ y1) = true → y2 < (↑y0.length : Int)) then
  bif (decide ((y0.getD y2.toNat T15.dflt).1 ≤ y1) && decide (y1 < (y0.getD y2.toNat T15.dflt).2)) then
  some true
  else
  f_u42_2 k j y0 y1 ((IntKind.i64.wrap (y2 + 1)))
  else none
  else
  some false
def f_u42 (k : Nat) (l_ : List (T15).T) (x_ : Int) : Option R_u42 :=
  f_u42_2 k k l_ x_ 0
def v_u42 (k : Nat) (l_ : List (T15).T) (x_ : Int) : R_u42 := (f_u42 k l_ x_).getD false
def ke_u42 (k : Nat) : Ke := (114, fun xs => match xs with
  | [_, _] => some [false, false]
  | _ => none, fun xs bs => match xs, bs with
  | [.r (.ro tl__ ql_), .r (.v (.int .i64 x_))], [] => (castL tl__ T15 ql_).bind fun l_ => some (.one (res_u42 (v_u42 k l_ x_), bo_u42 l_ x_ (v_u42 k l_ x_)))
  | _, _ => none)
def cs_u42 : List (Nat × List Cmd) := [(2, [.autoB [0, 1, 5] false []])]
abbrev E_u42 (l_ : List (T15).T) (x_ : Int) (todo : List Item) (st : St) (o : Option R_u42) : Prop := ∀ r, o = some r → Ev Tryz.prog Tryz.f114 0 todo st (res_u42 r) (bo_u42 l_ x_ r)
theorem ev_u42 (k : Nat) (l_ : List (T15).T) (x_ : Int) : ∀ j, (∀ (y0 : List (T15).T) (y1 : Int) (y2 : Int), E_u42 l_ x_ (placeAt Tryz.f114 2) (st_u42_2 y0 y1 y2) (f_u42_2 k j y0 y1 y2))
  | 0 => fun _ _ _ _ h => (nomatch h)
  | j + 1 => by
    have ih := @ev_u42 k l_ x_ j
    · intro y0 y1 y2 r h
      rw [f_u42_2] at h
      exact go (mkK []) [] cs_u42 [.autoB [4] true []] (gT h (fun c h => gN h (fun q => conjC q.1 (conjC q.2.1 (conjC q.2.2.1 (conjC q.2.2.2 conj0)))) fun h => gT h (fun c h => gL h) fun c h => gC h 2 (ih _ _ _ _)) fun c h => gL h) (by kernel_rfl)
theorem of_u42 (k : Nat) (l_ : List (T15).T) (x_ : Int) (r : R_u42) (h : f_u42 k l_ x_ = some r) : C_u42 l_ x_ r := by
  refine CC.of (fn := Tryz.f114) (by kernel_rfl) (by kernel_rfl) (by kernel_rfl) (by kernel_rfl) ?_
  unfold f_u42 at h
  exact go (mkK []) [] cs_u42 [.autoB [4] true []] (gC h 2 ((ev_u42 k l_ x_ k) _ _ _ _)) (by kernel_rfl)
theorem cc_u42 {k : Nat} {l_ : List (T15).T} {x_ : Int} (h : (f_u42 k l_ x_).isSome = true) : C_u42 l_ x_ (v_u42 k l_ x_) := ccG (Φ := C_u42 l_ x_) h (of_u42 k l_ x_)
abbrev R_u46 : Type := List (T15).T
def res_u46 (r : R_u46) : AV := .r (.ro T15 r)
def bo_u46 (a_ : List (T15).T) (b_ : List (T15).T) (way_ : Int) (r : R_u46) : List (Nat × Blk) := []
def args_u46 (a_ : List (T15).T) (b_ : List (T15).T) (way_ : Int) : List AV := [.r (.ro T15 a_), .r (.ro T15 b_), .r (.v (.int .i64 way_))]
def bin_u46 (a_ : List (T15).T) (b_ : List (T15).T) (way_ : Int) : List Blk := []
abbrev C_u46 (a_ : List (T15).T) (b_ : List (T15).T) (way_ : Int) (r : R_u46) : Prop := CC Tryz.prog 100 (args_u46 a_ b_ way_) (bin_u46 a_ b_ way_) (res_u46 r) (bo_u46 a_ b_ way_ r)
def st_u46_4 (y0 : List (T15).T) (y1 : List (T15).T) (y2 : Int) (y3 : List (I).T) (y4 : Int) (y5 : List (T15).T) : St := ⟨mkS 107 [(0, .r (.ro T15 y0)), (1, .r (.ro T15 y1)), (2, .r (.v (.int .i64 y2))), (7, .r (.ro I y3)), (8, .own 1000000 0), (9, .r (.v (.int .i64 y4)))], [(1000000, 0, .row 86 T15 y5)]⟩
def f_u46_4 (k : Nat) : Nat → List (T15).T → List (T15).T → Int → List (I).T → Int → List (T15).T → Option R_u46
  | 0, _, _, _, _, _, _ => none
  | j + 1, y0, y1, y2, y3, y4, y5 =>
  bif (decide (IntKind.i64.wrap (y4 + (1 : Int)) < (↑y3.length : Int))) then
  if (0 ≤ y4) ∧ (y4 < (↑y3.length : Int)) ∧ ((f_u42 k y0 (y3.getD y4.toNat I.dflt)).isSome = true) ∧ (0 ≤ y4) ∧ (y4 < (↑y3.length : Int)) ∧ ((f_u42 k y1 (y3.getD y4.toNat I.dflt)).isSome = true) then
  bif (y2 == (0 : Int) && (!v_u42 k y0 (y3.getD y4.toNat I.dflt)) && (!v_u42 k y1 (y3.getD y4.toNat I.dflt)) || y2 == (1 : Int) && (! (v_u42 k y0 (y3.getD y4.toNat I.dflt) && v_u42 k y1 (y3.getD y4.toNat I.dflt))) || y2 == (2 : Int) && (!v_u42 k y0 (y3.getD y4.toNat I.dflt) || v_u42 k y1 (y3.getD y4.toNat I.dflt))) then
  f_u46_4 k j y0 y1 y2 y3 ((IntKind.i64.wrap (y4 + 1))) y5
  else
  if (decide (IntKind.i64.wrap ((↑y5.length : Int) - (1 : Int)) ≥ (0 : Int)) = true → (0 : Int) ≤ IntKind.i64.wrap ((↑y5.length : Int) - (1 : Int))) ∧ (decide (IntKind.i64.wrap ((↑y5.length : Int) - (1 : Int)) ≥ (0 : Int)) = true → IntKind.i64.wrap ((↑y5.length : Int) - (1 : Int)) < (↑y5.length : Int)) ∧ (decide (IntKind.i64.wrap ((↑y5.length : Int) - (1 : Int)) ≥ (0 : Int)) = true → 0 ≤ y4) ∧ (decide (IntKind.i64.wrap ((↑y5.length : Int) - (1 : Int)) ≥ (0 : Int)) = true → y4 < (↑y3.length : Int)) then
  bif (decide (IntKind.i64.wrap ((↑y5.length : Int) - (1 : Int)) ≥ (0 : Int)) && (y5.getD (IntKind.i64.wrap ((↑y5.length : Int) - (1 : Int))).toNat T15.dflt).2 == y3.getD y4.toNat I.dflt) then
  if ((0 : Int) ≤ IntKind.i64.wrap (y4 + (1 : Int))) ∧ (IntKind.i64.wrap (y4 + (1 : Int)) < (↑y3.length : Int)) ∧ ((0 : Int) ≤ IntKind.i64.wrap ((↑y5.length : Int) - (1 : Int))) ∧ (IntKind.i64.wrap ((↑y5.length : Int) - (1 : Int)) < (↑y5.length : Int)) then
  f_u46_4 k j y0 y1 y2 y3 ((IntKind.i64.wrap (y4 + 1))) ((y5.set (IntKind.i64.wrap ((↑y5.length : Int) - 1)).toNat ((y5.getD (IntKind.i64.wrap ((↑y5.length : Int) - 1)).toNat T15.dflt).1, y3.getD (IntKind.i64.wrap (y4 + 1)).toNat I.dflt)))
  else none
  else
  if (0 ≤ y4) ∧ (y4 < (↑y3.length : Int)) ∧ ((0 : Int) ≤ IntKind.i64.wrap (y4 + (1 : Int))) ∧ (IntKind.i64.wrap (y4 + (1 : Int)) < (↑y3.length : Int)) ∧ ((y5.length + [(y3.getD y4.toNat I.dflt, y3.getD (IntKind.i64.wrap (y4 + (1 : Int))).toNat I.dflt)].length) * (16 : Nat) ≤ (140737488355328 : Nat)) then
  f_u46_4 k j y0 y1 y2 y3 ((IntKind.i64.wrap (y4 + 1))) ((y5 ++ [(y3.getD y4.toNat I.dflt, y3.getD (IntKind.i64.wrap (y4 + 1)).toNat I.dflt)]))
  else none
  else none
  else none
  else
  some y5
def f_u46 (k : Nat) (a_ : List (T15).T) (b_ : List (T15).T) (way_ : Int) : Option R_u46 :=
  if ((f_u47 k a_ b_).isSome = true) then
  f_u46_4 k k a_ b_ way_ ((v_u47 k a_ b_)) 0 ([])
  else none
def v_u46 (k : Nat) (a_ : List (T15).T) (b_ : List (T15).T) (way_ : Int) : R_u46 := (f_u46 k a_ b_ way_).getD []
def ke_u46 (k : Nat) : Ke := (100, fun xs => match xs with
  | [_, _, _] => some [false, false, false]
  | _ => none, fun xs bs => match xs, bs with
  | [.r (.ro ta__ qa_), .r (.ro tb__ qb_), .r (.v (.int .i64 way_))], [] => (castL ta__ T15 qa_).bind fun a_ => (castL tb__ T15 qb_).bind fun b_ => some (.one (res_u46 (v_u46 k a_ b_ way_), bo_u46 a_ b_ way_ (v_u46 k a_ b_ way_)))
  | _, _ => none)
def cs_u46 : List (Nat × List Cmd) := [(4, [.row 8 86 T15, .autoB [0, 1, 2, 7, 8, 9] false []])]
abbrev E_u46 (a_ : List (T15).T) (b_ : List (T15).T) (way_ : Int) (todo : List Item) (st : St) (o : Option R_u46) : Prop := ∀ r, o = some r → Ev Tryz.prog Tryz.f100 0 todo st (res_u46 r) (bo_u46 a_ b_ way_ r)
theorem ev_u46 (k : Nat) (a_ : List (T15).T) (b_ : List (T15).T) (way_ : Int) : ∀ j, (∀ (y0 : List (T15).T) (y1 : List (T15).T) (y2 : Int) (y3 : List (I).T) (y4 : Int) (y5 : List (T15).T), E_u46 a_ b_ way_ (placeAt Tryz.f100 4) (st_u46_4 y0 y1 y2 y3 y4 y5) (f_u46_4 k j y0 y1 y2 y3 y4 y5))
  | 0 => fun _ _ _ _ _ _ _ h => (nomatch h)
  | j + 1 => by
    have ih := @ev_u46 k a_ b_ way_ j
    · intro y0 y1 y2 y3 y4 y5 r h
      rw [f_u46_4] at h
      exact go (mkK [ke_u47 k, ke_u42 k]) [] cs_u46 [.frz 6 false (RTy.list T15), .autoB [6] true []] (gT h (fun c h => gN h (fun q => conjC q.1 (conjC q.2.1 (conjC (cc_u42 q.2.2.1) (conjC q.2.2.2.1 (conjC q.2.2.2.2.1 (conjC (cc_u42 q.2.2.2.2.2) conj0)))))) fun h => gT h (fun c h => gC h 4 (ih _ _ _ _ _ _ _)) fun c h => gN h (fun q => conjC q.1 (conjC q.2.1 (conjC q.2.2.1 (conjC q.2.2.2 conj0)))) fun h => gT h (fun c h => gN h (fun q => conjC q.1 (conjC q.2.1 (conjC q.2.2.1 (conjC q.2.2.2 conj0)))) fun h => gC h 4 (ih _ _ _ _ _ _ _)) fun c h => gN h (fun q => conjC q.1 (conjC q.2.1 (conjC q.2.2.1 (conjC q.2.2.2.1 (conjC q.2.2.2.2 conj0))))) fun h => gC h 4 (ih _ _ _ _ _ _ _)) fun c h => gL h) (by kernel_rfl)
theorem of_u46 (k : Nat) (a_ : List (T15).T) (b_ : List (T15).T) (way_ : Int) (r : R_u46) (h : f_u46 k a_ b_ way_ = some r) : C_u46 a_ b_ way_ r := by
  refine CC.of (fn := Tryz.f100) (by kernel_rfl) (by kernel_rfl) (by kernel_rfl) (by kernel_rfl) ?_
  unfold f_u46 at h
  exact go (mkK [ke_u47 k, ke_u42 k]) [] cs_u46 [.frz 6 false (RTy.list T15), .autoB [6] true []] (gN1 h (fun q => cc_u47 q) fun h => gC h 4 ((ev_u46 k a_ b_ way_ k) _ _ _ _ _ _ _)) (by kernel_rfl)
theorem cc_u46 {k : Nat} {a_ : List (T15).T} {b_ : List (T15).T} {way_ : Int} (h : (f_u46 k a_ b_ way_).isSome = true) : C_u46 a_ b_ way_ (v_u46 k a_ b_ way_) := ccG (Φ := C_u46 a_ b_ way_) h (of_u46 k a_ b_ way_)
abbrev R_u45 : Type := List (T15).T × Int
def res_u45 (r : R_u45) : AV := .tup [.r (.ro T15 r.1), .r (.v (.int .i64 r.2))]
def bo_u45 (a_ : List (T15).T) (b_ : List (T15).T) (way_ : Int) (r : R_u45) : List (Nat × Blk) := []
def args_u45 (a_ : List (T15).T) (b_ : List (T15).T) (way_ : Int) : List AV := [.r (.ro T15 a_), .r (.ro T15 b_), .r (.v (.int .i64 way_))]
def bin_u45 (a_ : List (T15).T) (b_ : List (T15).T) (way_ : Int) : List Blk := []
abbrev C_u45 (a_ : List (T15).T) (b_ : List (T15).T) (way_ : Int) (r : R_u45) : Prop := CC Tryz.prog 78 (args_u45 a_ b_ way_) (bin_u45 a_ b_ way_) (res_u45 r) (bo_u45 a_ b_ way_ r)
def f_u45 (k : Nat) (a_ : List (T15).T) (b_ : List (T15).T) (way_ : Int) : Option R_u45 :=
  if ((f_u41 k a_).isSome = true) then
  bif (v_u41 k a_ != (0 : Int)) then
  some (([], v_u41 k a_))
  else
  if ((f_u41 k b_).isSome = true) then
  bif (v_u41 k b_ != (0 : Int)) then
  some (([], v_u41 k b_))
  else
  if ((f_u46 k a_ b_ way_).isSome = true) then
  bif (decide ((↑ (List.length (v_u46 k a_ b_ way_)) : Int) > (256 : Int))) then
  some (([], 8))
  else
  some ((v_u46 k a_ b_ way_, 0))
  else none
  else none
  else none
def v_u45 (k : Nat) (a_ : List (T15).T) (b_ : List (T15).T) (way_ : Int) : R_u45 := (f_u45 k a_ b_ way_).getD ([], 0)
def ke_u45 (k : Nat) : Ke := (78, fun xs => match xs with
  | [_, _, _] => some [false, false, false]
  | _ => none, fun xs bs => match xs, bs with
  | [.r (.ro ta__ qa_), .r (.ro tb__ qb_), .r (.v (.int .i64 way_))], [] => (castL ta__ T15 qa_).bind fun a_ => (castL tb__ T15 qb_).bind fun b_ => some (.one (res_u45 (v_u45 k a_ b_ way_), bo_u45 a_ b_ way_ (v_u45 k a_ b_ way_)))
  | _, _ => none)
theorem of_u45 (k : Nat) (a_ : List (T15).T) (b_ : List (T15).T) (way_ : Int) (r : R_u45) (h : f_u45 k a_ b_ way_ = some r) : C_u45 a_ b_ way_ r := by
  refine CC.of (fn := Tryz.f78) (by kernel_rfl) (by kernel_rfl) (by kernel_rfl) (by kernel_rfl) ?_
  unfold f_u45 at h
  exact go (mkK [ke_u41 k, ke_u46 k]) [] [] [.frz 6 false (RTy.list T15), .autoB [6, 7] true []] (gN1 h (fun q => cc_u41 q) fun h => gT h (fun c h => gL h) fun c h => gN1 h (fun q => cc_u41 q) fun h => gT h (fun c h => gL h) fun c h => gN1 h (fun q => cc_u46 q) fun h => gT h (fun c h => gL h) fun c h => gL h) (by kernel_rfl)
theorem cc_u45 {k : Nat} {a_ : List (T15).T} {b_ : List (T15).T} {way_ : Int} (h : (f_u45 k a_ b_ way_).isSome = true) : C_u45 a_ b_ way_ (v_u45 k a_ b_ way_) := ccG (Φ := C_u45 a_ b_ way_) h (of_u45 k a_ b_ way_)
abbrev R_u43 : Type := List (T15).T × Int
def res_u43 (r : R_u43) : AV := .tup [.r (.ro T15 r.1), .r (.v (.int .i64 r.2))]
def bo_u43 (l_ : List (T15).T) (r : R_u43) : List (Nat × Blk) := []
def args_u43 (l_ : List (T15).T) : List AV := [.r (.ro T15 l_)]
def bin_u43 (l_ : List (T15).T) : List Blk := []
abbrev C_u43 (l_ : List (T15).T) (r : R_u43) : Prop := CC Tryz.prog 58 (args_u43 l_) (bin_u43 l_) (res_u43 r) (bo_u43 l_ r)
def f_u43 (k : Nat) (l_ : List (T15).T) : Option R_u43 :=
  if ((f_u45 k l_ [] 0).isSome = true) then
  some (((v_u45 k l_ [] 0).1, (v_u45 k l_ [] 0).2))
  else none
def v_u43 (k : Nat) (l_ : List (T15).T) : R_u43 := (f_u43 k l_).getD ([], 0)
def ke_u43 (k : Nat) : Ke := (58, fun xs => match xs with
  | [_] => some [false]
  | _ => none, fun xs bs => match xs, bs with
  | [.r (.ro tl__ ql_)], [] => (castL tl__ T15 ql_).bind fun l_ => some (.one (res_u43 (v_u43 k l_), bo_u43 l_ (v_u43 k l_)))
  | _, _ => none)
theorem of_u43 (k : Nat) (l_ : List (T15).T) (r : R_u43) (h : f_u43 k l_ = some r) : C_u43 l_ r := by
  refine CC.of (fn := Tryz.f58) (by kernel_rfl) (by kernel_rfl) (by kernel_rfl) (by kernel_rfl) ?_
  unfold f_u43 at h
  exact go (mkK [ke_u45 k]) [] [] [.frz 2 false (RTy.list T15), .autoB [2, 3] true []] (gN1 h (fun q => cc_u45 q) fun h => gL h) (by kernel_rfl)
theorem cc_u43 {k : Nat} {l_ : List (T15).T} (h : (f_u43 k l_).isSome = true) : C_u43 l_ (v_u43 k l_) := ccG (Φ := C_u43 l_) h (of_u43 k l_)
abbrev R_u52 : Type := List (T15).T × Int
def res_u52 (r : R_u52) : AV := .tup [.r (.ro T15 r.1), .r (.v (.int .i64 r.2))]
def bo_u52 (m_ : List (T0).T) (r : R_u52) : List (Nat × Blk) := []
def args_u52 (m_ : List (T0).T) : List AV := [.r (.ro T0 m_)]
def bin_u52 (m_ : List (T0).T) : List Blk := []
abbrev C_u52 (m_ : List (T0).T) (r : R_u52) : Prop := CC Tryz.prog 26 (args_u52 m_) (bin_u52 m_) (res_u52 r) (bo_u52 m_ r)
def st_u52_6 (y0 : List (T0).T) (y1 : Int) (y2 : List (T15).T) : St := ⟨mkS 51 [(0, .r (.ro T0 y0)), (5, .own 1000000 0), (6, .r (.v (.int .i64 y1)))], [(1000000, 0, .row 86 T15 y2)]⟩
def st_u52_10 (y0 : List (T15).T) : St := ⟨mkS 51 [(5, .r (.ro T15 y0))], []⟩
mutual
def f_u52_6 (k : Nat) : Nat → List (T0).T → Int → List (T15).T → Option R_u52
  | 0, _, _, _ => none
  | j + 1, y0, y1, y2 =>
  bif (decide (y1 < (↑y0.length : Int))) then
  if (0 ≤ y1) ∧ (y1 < (↑y0.length : Int)) ∧ (0 ≤ y1) ∧ (y1 < (↑y0.length : Int)) ∧ (0 ≤ y1) ∧ (y1 < (↑y0.length : Int)) ∧ ((f_u56 k (y0.getD y1.toNat T0.dflt) (IntKind.i64.wrap ((y0.getD y1.toNat T0.dflt).2.1 - 1))).isSome = true) then
  if ((y2.length + [(if v_u56 k (y0.getD y1.toNat T0.dflt) (IntKind.i64.wrap ((y0.getD y1.toNat T0.dflt).2.1 - (1 : Int))) < (y0.getD y1.toNat T0.dflt).1 then v_u56 k (y0.getD y1.toNat T0.dflt) (IntKind.i64.wrap ((y0.getD y1.toNat T0.dflt).2.1 - (1 : Int))) else (y0.getD y1.toNat T0.dflt).1, IntKind.i64.wrap ((if v_u56 k (y0.getD y1.toNat T0.dflt) (IntKind.i64.wrap ((y0.getD y1.toNat T0.dflt).2.1 - (1 : Int))) > (y0.getD y1.toNat T0.dflt).1 then v_u56 k (y0.getD y1.toNat T0.dflt) (IntKind.i64.wrap ((y0.getD y1.toNat T0.dflt).2.1 - (1 : Int))) else (y0.getD y1.toNat T0.dflt).1) + (1 : Int)))].length) * (16 : Nat) ≤ (140737488355328 : Nat)) then
  f_u52_6 k j y0 ((IntKind.i64.wrap (y1 + 1))) ((y2 ++ [(if v_u56 k (y0.getD y1.toNat T0.dflt) (IntKind.i64.wrap ((y0.getD y1.toNat T0.dflt).2.1 - 1)) < (y0.getD y1.toNat T0.dflt).1 then v_u56 k (y0.getD y1.toNat T0.dflt) (IntKind.i64.wrap ((y0.getD y1.toNat T0.dflt).2.1 - 1)) else (y0.getD y1.toNat T0.dflt).1, IntKind.i64.wrap ((if v_u56 k (y0.getD y1.toNat T0.dflt) (IntKind.i64.wrap ((y0.getD y1.toNat T0.dflt).2.1 - 1)) > (y0.getD y1.toNat T0.dflt).1 then v_u56 k (y0.getD y1.toNat T0.dflt) (IntKind.i64.wrap ((y0.getD y1.toNat T0.dflt).2.1 - 1)) else (y0.getD y1.toNat T0.dflt).1) + 1))]))
  else none
  else none
  else
  f_u52_10 k j y2
def f_u52_10 (k : Nat) : Nat → List (T15).T → Option R_u52
  | 0, _ => none
  | j + 1, y0 =>
  if ((f_u43 k y0).isSome = true) then
  some (((v_u43 k y0).1, (v_u43 k y0).2))
  else none
end
def f_u52 (k : Nat) (m_ : List (T0).T) : Option R_u52 :=
  if ((f_u49 k m_).isSome = true) then
  bif (v_u49 k m_ != (0 : Int)) then
  some (([], v_u49 k m_))
  else
  f_u52_6 k k m_ 0 ([])
  else none
def v_u52 (k : Nat) (m_ : List (T0).T) : R_u52 := (f_u52 k m_).getD ([], 0)
def ke_u52 (k : Nat) : Ke := (26, fun xs => match xs with
  | [_] => some [false]
  | _ => none, fun xs bs => match xs, bs with
  | [.r (.ro tm__ qm_)], [] => (castL tm__ T0 qm_).bind fun m_ => some (.one (res_u52 (v_u52 k m_), bo_u52 m_ (v_u52 k m_)))
  | _, _ => none)
def K_u52 (k : Nat) : Calld := mkK [ke_u49 k, ke_u56 k, ke_u43 k]
def cs_u52 : List (Nat × List Cmd) := [(6, [.row 5 86 T15, .autoB [0, 5, 6] false []]), (10, [.frz 5 false (RTy.list T15), .autoB [5] false []])]
abbrev E_u52 (m_ : List (T0).T) (todo : List Item) (st : St) (o : Option R_u52) : Prop := ∀ r, o = some r → Ev Tryz.prog Tryz.f26 0 todo st (res_u52 r) (bo_u52 m_ r)
theorem ev_u52 (k : Nat) (m_ : List (T0).T) : ∀ j, (∀ (y0 : List (T0).T) (y1 : Int) (y2 : List (T15).T), E_u52 m_ (placeAt Tryz.f26 6) (st_u52_6 y0 y1 y2) (f_u52_6 k j y0 y1 y2)) ∧ (∀ (y0 : List (T15).T), E_u52 m_ (placeAt Tryz.f26 10) (st_u52_10 y0) (f_u52_10 k j y0))
  | 0 => ⟨fun _ _ _ _ h => (nomatch h), fun _ _ h => (nomatch h)⟩
  | j + 1 => by
    have ih := @ev_u52 k m_ j
    refine ⟨?_, ?_⟩
    · intro y0 y1 y2 r h
      rw [f_u52_6] at h
      exact go (K_u52 k) [10] cs_u52 [.frz 2 false (RTy.list T15), .autoB [2, 3] true []] (gT h (fun c h => gN h (fun q => conjC q.1 (conjC q.2.1 (conjC q.2.2.1 (conjC q.2.2.2.1 (conjC q.2.2.2.2.1 (conjC q.2.2.2.2.2.1 (conjC (cc_u56 q.2.2.2.2.2.2) conj0))))))) fun h => gN1 h id fun h => gC h 6 (ih.1 _ _ _ _)) fun c h => gC h 10 (ih.2 _ _)) (by kernel_rfl)
    · intro y0 r h
      rw [f_u52_10] at h
      exact go (K_u52 k) [10] cs_u52 [.frz 2 false (RTy.list T15), .autoB [2, 3] true []] (gN1 h (fun q => cc_u43 q) fun h => gL h) (by kernel_rfl)
theorem of_u52 (k : Nat) (m_ : List (T0).T) (r : R_u52) (h : f_u52 k m_ = some r) : C_u52 m_ r := by
  refine CC.of (fn := Tryz.f26) (by kernel_rfl) (by kernel_rfl) (by kernel_rfl) (by kernel_rfl) ?_
  unfold f_u52 at h
  exact go (K_u52 k) [10] cs_u52 [.frz 2 false (RTy.list T15), .autoB [2, 3] true []] (gN1 h (fun q => cc_u49 q) fun h => gT h (fun c h => gL h) fun c h => gC h 6 ((ev_u52 k m_ k).1 _ _ _ _)) (by kernel_rfl)
theorem cc_u52 {k : Nat} {m_ : List (T0).T} (h : (f_u52 k m_).isSome = true) : C_u52 m_ (v_u52 k m_) := ccG (Φ := C_u52 m_) h (of_u52 k m_)
abbrev R_u44 : Type := Int × Int
def res_u44 (r : R_u44) : AV := .tup [.r (.v (.int .i64 r.1)), .r (.v (.int .i64 r.2))]
def bo_u44 (l_ : List (T15).T) (r : R_u44) : List (Nat × Blk) := []
def args_u44 (l_ : List (T15).T) : List AV := [.r (.ro T15 l_)]
def bin_u44 (l_ : List (T15).T) : List Blk := []
abbrev C_u44 (l_ : List (T15).T) (r : R_u44) : Prop := CC Tryz.prog 128 (args_u44 l_) (bin_u44 l_) (res_u44 r) (bo_u44 l_ r)
def st_u44_4 (y0 : List (T15).T) (y1 : Int) (y2 : Int) (y3 : Int) : St := ⟨mkS 34 [(4, .r (.ro T15 y0)), (5, .r (.v (.int .i64 y1))), (6, .r (.v (.int .i64 y2))), (7, .r (.v (.int .i64 y3)))], []⟩
def f_u44_4 (k : Nat) : Nat → List (T15).T → Int → Int → Int → Option R_u44
  | 0, _, _, _, _ => none
  | j + 1, y0, y1, y2, y3 =>
  bif (decide (y3 < (↑y0.length : Int))) then
  if (0 ≤ y3) ∧ (y3 < (↑y0.length : Int)) ∧ (0 ≤ y3) ∧ (y3 < (↑y0.length : Int)) then
  f_u44_4 k j y0 y1 ((IntKind.i64.wrap (IntKind.i64.wrap (y2 + (y0.getD y3.toNat T15.dflt).2) - (y0.getD y3.toNat T15.dflt).1))) ((IntKind.i64.wrap (y3 + 1)))
  else none
  else
  some ((y2, y1))
def f_u44 (k : Nat) (l_ : List (T15).T) : Option R_u44 :=
  if ((f_u43 k l_).isSome = true) then
  f_u44_4 k k ((v_u43 k l_).1) ((v_u43 k l_).2) 0 0
  else none
def v_u44 (k : Nat) (l_ : List (T15).T) : R_u44 := (f_u44 k l_).getD (0, 0)
def ke_u44 (k : Nat) : Ke := (128, fun xs => match xs with
  | [_] => some [false]
  | _ => none, fun xs bs => match xs, bs with
  | [.r (.ro tl__ ql_)], [] => (castL tl__ T15 ql_).bind fun l_ => some (.one (res_u44 (v_u44 k l_), bo_u44 l_ (v_u44 k l_)))
  | _, _ => none)
def cs_u44 : List (Nat × List Cmd) := [(4, [.autoB [4, 5, 6, 7] false []])]
abbrev E_u44 (l_ : List (T15).T) (todo : List Item) (st : St) (o : Option R_u44) : Prop := ∀ r, o = some r → Ev Tryz.prog Tryz.f128 0 todo st (res_u44 r) (bo_u44 l_ r)
theorem ev_u44 (k : Nat) (l_ : List (T15).T) : ∀ j, (∀ (y0 : List (T15).T) (y1 : Int) (y2 : Int) (y3 : Int), E_u44 l_ (placeAt Tryz.f128 4) (st_u44_4 y0 y1 y2 y3) (f_u44_4 k j y0 y1 y2 y3))
  | 0 => fun _ _ _ _ _ h => (nomatch h)
  | j + 1 => by
    have ih := @ev_u44 k l_ j
    · intro y0 y1 y2 y3 r h
      rw [f_u44_4] at h
      exact go (mkK [ke_u43 k]) [] cs_u44 [.autoB [2, 3] true []] (gT h (fun c h => gN h (fun q => conjC q.1 (conjC q.2.1 (conjC q.2.2.1 (conjC q.2.2.2 conj0)))) fun h => gC h 4 (ih _ _ _ _ _)) fun c h => gL h) (by kernel_rfl)
theorem of_u44 (k : Nat) (l_ : List (T15).T) (r : R_u44) (h : f_u44 k l_ = some r) : C_u44 l_ r := by
  refine CC.of (fn := Tryz.f128) (by kernel_rfl) (by kernel_rfl) (by kernel_rfl) (by kernel_rfl) ?_
  unfold f_u44 at h
  exact go (mkK [ke_u43 k]) [] cs_u44 [.autoB [2, 3] true []] (gN1 h (fun q => cc_u43 q) fun h => gC h 4 ((ev_u44 k l_ k) _ _ _ _ _)) (by kernel_rfl)
theorem cc_u44 {k : Nat} {l_ : List (T15).T} (h : (f_u44 k l_).isSome = true) : C_u44 l_ (v_u44 k l_) := ccG (Φ := C_u44 l_) h (of_u44 k l_)
abbrev R_u53 : Type := Bool
def res_u53 (r : R_u53) : AV := .r (.v (.bool r))
def bo_u53 (m_ : List (T0).T) (r : R_u53) : List (Nat × Blk) := []
def args_u53 (m_ : List (T0).T) : List AV := [.r (.ro T0 m_)]
def bin_u53 (m_ : List (T0).T) : List Blk := []
abbrev C_u53 (m_ : List (T0).T) (r : R_u53) : Prop := CC Tryz.prog 111 (args_u53 m_) (bin_u53 m_) (res_u53 r) (bo_u53 m_ r)
def f_u53 (k : Nat) (m_ : List (T0).T) : Option R_u53 :=
  if ((f_u49 k m_).isSome = true) then
  bif (v_u49 k m_ != (0 : Int)) then
  some false
  else
  if ((f_u52 k m_).isSome = true) then
  if ((f_u44 k (v_u52 k m_).1).isSome = true) then
  bif ((v_u44 k (v_u52 k m_).1).2 == (0 : Int)) then
  if (((v_u44 k (v_u52 k m_).1).2 == (0 : Int)) = true) ∧ ((f_u57 k m_).isSome = true) then
  some (true && (v_u44 k (v_u52 k m_).1).1 == v_u57 k m_)
  else none
  else
  if (((v_u44 k (v_u52 k m_).1).2 == (0 : Int)) = false) then
  some false
  else none
  else none
  else none
  else none
def v_u53 (k : Nat) (m_ : List (T0).T) : R_u53 := (f_u53 k m_).getD false
def ke_u53 (k : Nat) : Ke := (111, fun xs => match xs with
  | [_] => some [false]
  | _ => none, fun xs bs => match xs, bs with
  | [.r (.ro tm__ qm_)], [] => (castL tm__ T0 qm_).bind fun m_ => some (.one (res_u53 (v_u53 k m_), bo_u53 m_ (v_u53 k m_)))
  | _, _ => none)
theorem of_u53 (k : Nat) (m_ : List (T0).T) (r : R_u53) (h : f_u53 k m_ = some r) : C_u53 m_ r := by
  refine CC.of (fn := Tryz.f111) (by kernel_rfl) (by kernel_rfl) (by kernel_rfl) (by kernel_rfl) ?_
  unfold f_u53 at h
  exact go (mkK [ke_u57 k, ke_u49 k, ke_u52 k, ke_u44 k]) [] [] [.autoB [2] true []] (gN1 h (fun q => cc_u49 q) fun h => gT h (fun c h => gL h) fun c h => gN1 h (fun q => cc_u52 q) fun h => gN1 h (fun q => cc_u44 q) fun h => gT h (fun c h => gN h (fun q => conjC q.1 (conjC (cc_u57 q.2) conj0)) fun h => gL h) fun c h => gN1 h id fun h => gL h) (by kernel_rfl)
theorem cc_u53 {k : Nat} {m_ : List (T0).T} (h : (f_u53 k m_).isSome = true) : C_u53 m_ (v_u53 k m_) := ccG (Φ := C_u53 m_) h (of_u53 k m_)

end
/-! ### maps: the program's functions and the reference's -/
theorem iso_image_s (k : Nat) (r : Rn) (x : Int) (h1 : -4611686018427387904 ≤ r.1) (h2 : r.1 ≤ 4611686018427387903) (h3 : -4611686018427387904 ≤ x) (h4 : x ≤ 4611686018427387903) : f_u29 k r x = some (img r x) := by
  unfold f_u29 img
  cases r.2.2
  · rw [cond_false, wrap_id (by omega) (by omega), if_neg (by decide)]
  · rw [cond_true, wrap_id (by omega) (by omega), if_pos rfl]
theorem iso_image_v (k : Nat) (r : Rn) (x : Int) (h1 : -4611686018427387904 ≤ r.1) (h2 : r.1 ≤ 4611686018427387903) (h3 : -4611686018427387904 ≤ x) (h4 : x ≤ 4611686018427387903) : v_u29 k r x = img r x := by
  unfold v_u29; rw [iso_image_s k r x h1 h2 h3 h4]; rfl
theorem ref13_image_s (k : Nat) (r : Rn) (x : Int) (h1 : -4611686018427387904 ≤ r.1) (h2 : r.1 ≤ 4611686018427387903) (h3 : -4611686018427387904 ≤ x) (h4 : x ≤ 4611686018427387903) : f_u56 k r x = some (img r x) := by
  unfold f_u56 img
  cases r.2.2
  · rw [cond_false, wrap_id (by omega) (by omega), if_neg (by decide)]
  · rw [cond_true, wrap_id (by omega) (by omega), if_pos rfl]
theorem ref13_image_v (k : Nat) (r : Rn) (x : Int) (h1 : -4611686018427387904 ≤ r.1) (h2 : r.1 ≤ 4611686018427387903) (h3 : -4611686018427387904 ≤ x) (h4 : x ≤ 4611686018427387903) : v_u56 k r x = img r x := by
  unfold v_u56; rw [ref13_image_s k r x h1 h2 h3 h4]; rfl

/-- a test of a run alone, as the program has it -/
theorem good_test {r : Rn} : good r ↔ ¬ ((decide (r.2.1 < 1) || decide (r.2.1 > 17179869184) || decide (r.1 < 0) || decide (r.1 ≥ 17179869184)) = true) ∧ ¬ ((r.2.2 && decide (r.1 - r.2.1 + 1 < 0) || (!r.2.2) && decide (r.1 + r.2.1 > 17179869184)) = true) := by
  unfold good
  simp only [Bool.or_eq_true, decide_eq_true_eq, Bool.and_eq_true, Bool.not_eq_true', not_or, not_and]
  constructor
  · rintro ⟨h1, h2, h3, h4, h5, h6⟩
    refine ⟨⟨⟨⟨by omega, by omega⟩, by omega⟩, by omega⟩, fun h => ?_, fun h => ?_⟩
    · have := h5 h; omega
    · have := h6 h; omega
  · rintro ⟨⟨⟨⟨h1, h2⟩, h3⟩, h4⟩, h5, h6⟩
    refine ⟨by omega, by omega, by omega, by omega, fun h => ?_, fun h => ?_⟩
    · have := h5 h; omega
    · have := h6 h; omega

/-- the error of a map, run by run -/
def chkGo : Int → List Rn → Int
  | n, [] => if n > 17179869184 then 21 else 0
  | n, r :: t => if good r then chkGo (n + r.2.1) t else 1
theorem chkGo_eq : ∀ (m : List Rn) (n : Int), chkGo n m = if goods m then (if n + lenS m > 17179869184 then 21 else 0) else 1
  | [], n => by simp [chkGo, goods, lenS]
  | r :: t, n => by
    unfold chkGo
    by_cases h : good r
    · rw [if_pos h, chkGo_eq t]
      by_cases h2 : goods t
      · rw [if_pos h2, if_pos (show goods (r :: t) from ⟨h, h2⟩)]
        rw [show n + lenS (r :: t) = n + r.2.1 + lenS t by simp only [lenS]; omega]
      · rw [if_neg h2, if_neg (fun h3 : goods (r :: t) => h2 h3.2)]
    · rw [if_neg h, if_neg (fun h3 : goods (r :: t) => h h3.1)]
theorem chk_go (m : List Rn) : chk m = if m.length > 256 then 8 else chkGo 0 m := by
  unfold chk; rw [chkGo_eq, Int.zero_add]

theorem iso_Check_l (k : Nat) (m : List Rn) (hm : m.length ≤ 256) : ∀ (j i : Nat) (n : Int), i ≤ m.length → m.length - i < j → 0 ≤ n → n ≤ (i : Int) * 17179869184 →
    f_u18_5 k j n m (m.length : Int) (i : Int) = some (chkGo n (m.drop i)) := by
  intro j
  induction j with
  | zero => intros; omega
  | succ j ih =>
    intro i n hi hj h0 hn
    unfold f_u18_5
    by_cases h : i < m.length
    · rw [decide_eq_true (by omega : (i : Int) < (m.length : Int)), cond_true, if_pos ⟨by omega, by omega⟩, drop_cons' m i T0.dflt h]
      rw [Int.toNat_natCast]
      unfold chkGo
      by_cases hg : good (m.getD i T0.dflt)
      · obtain ⟨t1, t2⟩ := good_test.1 hg
        have hr := hg
        obtain ⟨g1, g2, g3, g4, _, _⟩ := hr
        rw [if_pos hg, Bool.eq_false_iff.2 t1, cond_false, wrap_id (i := (m.getD i T0.dflt).fst - (m.getD i T0.dflt).snd.fst) (by omega) (by omega), wrap_id (i := (m.getD i T0.dflt).fst - (m.getD i T0.dflt).snd.fst + 1) (by omega) (by omega), wrap_id (i := (m.getD i T0.dflt).fst + (m.getD i T0.dflt).snd.fst) (by omega) (by omega), Bool.eq_false_iff.2 t2, cond_false, wrap_id (i := n + (m.getD i T0.dflt).snd.fst) (by omega) (by omega), wrapS i (by omega)]
        exact ih (i + 1) _ (by omega) (by omega) (by omega) (by omega)
      · rw [if_neg hg]
        by_cases t1 : (decide ((m.getD i T0.dflt).2.1 < 1) || decide ((m.getD i T0.dflt).2.1 > 17179869184) || decide ((m.getD i T0.dflt).1 < 0) || decide ((m.getD i T0.dflt).1 ≥ 17179869184)) = true
        · rw [t1, cond_true]
        · have t2 := fun t2 => hg (good_test.2 ⟨t1, t2⟩)
          have t2 := Classical.not_not.1 t2
          have t3 := t1
          simp only [Bool.or_eq_true, decide_eq_true_eq, not_or] at t3
          obtain ⟨⟨⟨q1, q2⟩, q3⟩, q4⟩ := t3
          rw [Bool.eq_false_iff.2 t1, cond_false, wrap_id (i := (m.getD i T0.dflt).fst - (m.getD i T0.dflt).snd.fst) (by omega) (by omega), wrap_id (i := (m.getD i T0.dflt).fst - (m.getD i T0.dflt).snd.fst + 1) (by omega) (by omega), wrap_id (i := (m.getD i T0.dflt).fst + (m.getD i T0.dflt).snd.fst) (by omega) (by omega), t2, cond_true]
    · rw [decide_eq_false (by omega : ¬ (i : Int) < (m.length : Int)), cond_false, drop_all m i (by omega)]
      unfold chkGo
      by_cases h : n > 17179869184
      · rw [decide_eq_true h, cond_true, if_pos h]
      · rw [decide_eq_false h, cond_false, if_neg h]
theorem iso_Check_s (k : Nat) (hk : 300 ≤ k) (m : List Rn) : f_u18 k m = some (chk m) := by
  unfold f_u18
  rw [chk_go]
  by_cases h : m.length > 256
  · rw [decide_eq_true (by omega : (m.length : Int) > 256), cond_true, if_pos h]
  · rw [decide_eq_false (by omega : ¬ (m.length : Int) > 256), cond_false, if_neg h]
    exact iso_Check_l k m (by omega) k 0 0 (by omega) (by omega) (by omega) (by omega)
theorem iso_Check_v (k : Nat) (hk : 300 ≤ k) (m : List Rn) : v_u18 k m = chk m := by
  unfold v_u18; rw [iso_Check_s k hk]; rfl

theorem iso_length_l (k : Nat) (m : List Rn) (hg : goods m) (hm : m.length ≤ 1000) : ∀ (j i : Nat) (n : Int), i ≤ m.length → m.length - i < j → 0 ≤ n → n ≤ (i : Int) * 17179869184 →
    f_u31_3 k j n m (m.length : Int) (i : Int) = some (n + lenS (m.drop i)) := by
  intro j
  induction j with
  | zero => intros; omega
  | succ j ih =>
    intro i n hi hj h0 hn
    unfold f_u31_3
    by_cases h : i < m.length
    · have hgr : good (m.getD i T0.dflt) := hg.mem _ (by simp [h])
      rw [decide_eq_true (by omega : (i : Int) < (m.length : Int)), cond_true, if_pos ⟨by omega, by omega⟩, drop_cons' m i T0.dflt h]
      rw [Int.toNat_natCast]
      generalize m.getD i T0.dflt = r at hgr
      obtain ⟨g1, g2, _⟩ := hgr
      rw [wrap_id (i := n + r.snd.fst) (by omega) (by omega), wrapS i (by omega), ih (i + 1) _ (by omega) (by omega) (by omega) (by omega)]
      simp only [lenS, Int.add_assoc]
    · rw [decide_eq_false (by omega : ¬ (i : Int) < (m.length : Int)), cond_false, drop_all m i (by omega)]
      simp [lenS]
theorem iso_length_s (k : Nat) (m : List Rn) (hg : goods m) (hm : m.length ≤ 1000) (hk : m.length < k) : f_u31 k m = some (lenS m) := by
  unfold f_u31
  have := iso_length_l k m hg hm k 0 0 (by omega) (by omega) (by omega) (by omega)
  rw [Int.zero_add] at this
  exact this
theorem iso_length_v (k : Nat) (m : List Rn) (hg : goods m) (hm : m.length ≤ 1000) (hk : m.length < k) : v_u31 k m = lenS m := by
  unfold v_u31; rw [iso_length_s k m hg hm hk]; rfl

theorem ref13_good_s (k : Nat) (r : Rn) : f_u55 k r = some (decide (good r)) := by
  unfold f_u55
  by_cases t1 : (decide (r.2.1 < 1) || decide (r.2.1 > 17179869184) || decide (r.1 < 0) || decide (r.1 ≥ 17179869184)) = true
  · rw [t1, cond_true, decide_eq_false (fun h => (good_test.1 h).1 t1)]
  · rw [Bool.eq_false_iff.2 t1, cond_false]
    have t3 := t1
    simp only [Bool.or_eq_true, decide_eq_true_eq, not_or] at t3
    obtain ⟨⟨⟨q1, q2⟩, q3⟩, q4⟩ := t3
    rw [wrap_id (i := r.fst - r.snd.fst) (by omega) (by omega), wrap_id (i := r.fst - r.snd.fst + 1) (by omega) (by omega), wrap_id (i := r.fst + r.snd.fst) (by omega) (by omega)]
    cases hb : r.snd.snd
    · rw [cond_false]
      congr 1
      apply decide_eq_decide.2
      constructor
      · intro h
        exact ⟨by omega, by omega, by omega, by omega, fun e => by simp [hb] at e, fun _ => h⟩
      · rintro ⟨_, _, _, _, _, h⟩
        exact h hb
    · rw [cond_true]
      congr 1
      apply decide_eq_decide.2
      constructor
      · intro h
        exact ⟨by omega, by omega, by omega, by omega, fun _ => h, fun e => by simp [hb] at e⟩
      · rintro ⟨_, _, _, _, h, _⟩
        exact h hb
theorem ref13_good_v (k : Nat) (r : Rn) : v_u55 k r = decide (good r) := by
  unfold v_u55; rw [ref13_good_s]; rfl

theorem ref13_length_l (k : Nat) (m : List Rn) (hg : goods m) (hm : m.length ≤ 1000) : ∀ (j i : Nat) (n : Int), i ≤ m.length → m.length - i < j → 0 ≤ n → n ≤ (i : Int) * 17179869184 →
    f_u57_3 k j m n (i : Int) = some (n + lenS (m.drop i)) := by
  intro j
  induction j with
  | zero => intros; omega
  | succ j ih =>
    intro i n hi hj h0 hn
    unfold f_u57_3
    by_cases h : i < m.length
    · have hgr : good (m.getD i T0.dflt) := hg.mem _ (by simp [h])
      rw [decide_eq_true (by omega : (i : Int) < (m.length : Int)), cond_true, if_pos ⟨by omega, by omega⟩, drop_cons' m i T0.dflt h]
      rw [Int.toNat_natCast]
      generalize m.getD i T0.dflt = r at hgr
      obtain ⟨g1, g2, _⟩ := hgr
      rw [wrap_id (i := n + r.snd.fst) (by omega) (by omega), wrapS i (by omega), ih (i + 1) _ (by omega) (by omega) (by omega) (by omega)]
      simp only [lenS, Int.add_assoc]
    · rw [decide_eq_false (by omega : ¬ (i : Int) < (m.length : Int)), cond_false, drop_all m i (by omega)]
      simp [lenS]
theorem ref13_length_s (k : Nat) (m : List Rn) (hg : goods m) (hm : m.length ≤ 1000) (hk : m.length < k) : f_u57 k m = some (lenS m) := by
  unfold f_u57
  have := ref13_length_l k m hg hm k 0 0 (by omega) (by omega) (by omega) (by omega)
  rw [Int.zero_add] at this
  exact this
theorem ref13_length_v (k : Nat) (m : List Rn) (hg : goods m) (hm : m.length ≤ 1000) (hk : m.length < k) : v_u57 k m = lenS m := by
  unfold v_u57; rw [ref13_length_s k m hg hm hk]; rfl

theorem ref13_Check_l (k : Nat) (hk : 300 ≤ k) (m : List Rn) (hm : m.length ≤ 256) : ∀ (j i : Nat), i ≤ m.length → m.length - i < j → goods (m.take i) →
    f_u49_4 k j m (i : Int) = some (if goods m then (if lenS m > 17179869184 then 21 else 0) else 1) := by
  intro j
  induction j with
  | zero => intros; omega
  | succ j ih =>
    intro i hi hj hg
    unfold f_u49_4
    by_cases h : i < m.length
    · rw [decide_eq_true (by omega : (i : Int) < (m.length : Int)), cond_true, ref13_good_s, ref13_good_v, if_pos ⟨by omega, by omega, rfl⟩, Int.toNat_natCast]
      have hmem : m.getD i T0.dflt ∈ m := by simp [h]
      have htk : m.take (i + 1) = m.take i ++ [m.getD i T0.dflt] := by
        rw [List.take_add_one]; simp [h]
      by_cases hgr : good (m.getD i T0.dflt)
      · rw [decide_eq_true hgr, Bool.not_true, cond_false, wrapS i (by omega)]
        exact ih (i + 1) (by omega) (by omega) (by rw [htk, goods_append]; exact ⟨hg, hgr, trivial⟩)
      · rw [decide_eq_false hgr, Bool.not_false, cond_true, if_neg (fun hgs => hgr (goods.mem hgs _ hmem))]
    · have : m.take i = m := List.take_of_length_le (by omega)
      rw [this] at hg
      rw [decide_eq_false (by omega : ¬ (i : Int) < (m.length : Int)), cond_false, ref13_length_s k m hg (by omega) (by omega), ref13_length_v k m hg (by omega) (by omega), Option.isSome_some, if_pos rfl, if_pos hg]
      by_cases h : lenS m > 17179869184
      · rw [decide_eq_true h, cond_true, if_pos h]
      · rw [decide_eq_false h, cond_false, if_neg h]
theorem ref13_Check_s (k : Nat) (hk : 300 ≤ k) (m : List Rn) : f_u49 k m = some (chk m) := by
  unfold f_u49 chk
  by_cases h : m.length > 256
  · rw [decide_eq_true (by omega : (m.length : Int) > 256), cond_true, if_pos h]
  · rw [decide_eq_false (by omega : ¬ (m.length : Int) > 256), cond_false, if_neg h]
    exact ref13_Check_l k hk m (by omega) k 0 (by omega) (by omega) (by simp [goods])
theorem ref13_Check_v (k : Nat) (hk : 300 ≤ k) (m : List Rn) : v_u49 k m = chk m := by
  unfold v_u49; rw [ref13_Check_s k hk]; rfl
/-! ### a normal form with a further run -/
/-- runs of moderate numbers -/
def Bnd (r : Rn) : Prop := -1125899906842624 ≤ r.1 ∧ r.1 ≤ 1125899906842624 ∧ 0 ≤ r.2.1 ∧ r.2.1 ≤ 1125899906842624
theorem good.bnd {r : Rn} (h : good r) : Bnd r := by
  obtain ⟨h1, h2, h3, h4, _⟩ := h
  exact ⟨by omega, by omega, by omega, by omega⟩

theorem addS_nil (r : Rn) (h : ¬ r.2.1 < 1) : addS [] r = [prt r 0 r.2.1] := by
  unfold addS; rw [if_neg h]; rfl
theorem addS_last (pre : List Rn) (c r : Rn) (h : ¬ r.2.1 < 1) : addS (pre ++ [c]) r = (bif apart c r then pre ++ [c] ++ [prt r 0 r.2.1]
      else bif decide (r.2.1 > 1) && !(r.2.2 == (stp c r == -1)) then pre ++ [(c.1, c.2.1 + 1, stp c r == -1), prt r 1 (r.2.1 - 1)]
      else pre ++ [(c.1, c.2.1 + r.2.1, stp c r == -1)]) := by
  unfold addS; rw [if_neg h]; simp
theorem addS_zero (b : List Rn) (r : Rn) (h : r.2.1 < 1) : addS b r = b := by unfold addS; rw [if_pos h]

theorem prt_zero (r : Rn) (n : Int) : prt (prt r 1 n) 0 n = prt r 1 n := by
  unfold prt
  have e : img (img r 1, n, r.2.2 && decide (n > 1)) 0 = img r 1 := by
    unfold img; cases r.2.2 && decide (n > 1) <;> simp
  rw [e]
  simp
theorem prt_bnd {r : Rn} (h : Bnd r) {x n : Int} (h0 : 0 ≤ x) (h1 : x ≤ r.2.1) (h2 : 0 ≤ n) (h3 : n ≤ r.2.1) : -2251799813685248 ≤ (prt r x n).1 ∧ (prt r x n).1 ≤ 2251799813685248 ∧ (prt r x n).2.1 = n := by
  obtain ⟨b1, b2, b3, b4⟩ := h
  unfold prt img
  refine ⟨?_, ?_, rfl⟩ <;> cases r.2.2 <;> simp only [Bool.false_eq_true, if_false, if_true] <;> omega

theorem apart_turn {c r : Rn} (hc : 1 ≤ c.2.1) (h1 : apart c r = false) (h3 : (r.2.2 == (stp c r == -1)) = false) : apart (c.1, c.2.1 + 1, stp c r == -1) (prt r 1 (r.2.1 - 1)) = true := by
  obtain ⟨ca, cl, cb⟩ := c
  obtain ⟨ra, rl, rb⟩ := r
  unfold apart at h1
  simp only [Bool.or_eq_false_iff] at h1
  obtain ⟨h1, h2⟩ := h1
  have hs : stp (ca, cl, cb) (ra, rl, rb) = 1 ∨ stp (ca, cl, cb) (ra, rl, rb) = -1 := by
    generalize stp (ca, cl, cb) (ra, rl, rb) = s at h1
    by_cases e1 : s = 1
    · exact .inl e1
    · by_cases e2 : s = -1
      · exact .inr e2
      · simp [e1, e2] at h1
  have hcl : (1 : Int) ≤ cl := hc
  unfold apart
  rw [Bool.or_eq_true]
  right
  rw [Bool.and_eq_true]
  refine ⟨decide_eq_true (show cl + 1 > 1 by omega), ?_⟩
  rcases hs with hs | hs
  · rw [hs] at h2 h3
    have hrb : rb = true := by cases rb <;> simp_all
    subst hrb
    have hcb : cl > 1 → cb = false := fun h => by
      rw [decide_eq_true (show (ca, cl, cb).2.1 > 1 from h), Bool.true_and] at h2
      cases cb
      · rfl
      · simp at h2
    rw [hs]
    have e : stp (ca, cl + 1, (1 : Int) == -1) (prt (ra, rl, true) 1 (rl - 1)) = -1 := by
      unfold stp img at hs
      unfold stp prt img
      simp only [show ((1 : Int) == -1) = false from rfl, Bool.false_eq_true, if_false, if_true] at hs ⊢
      by_cases hl : cl > 1
      · rw [hcb hl] at hs; simp only [Bool.false_eq_true, if_false] at hs; omega
      · cases cb <;> simp only [Bool.false_eq_true, if_false, if_true] at hs <;> omega
    show (!((stp (ca, cl + 1, (1 : Int) == -1) (prt (ra, rl, true) 1 (rl - 1)) == -1) == ((1 : Int) == -1))) = true
    rw [e]; rfl
  · rw [hs] at h2 h3
    have hrb : rb = false := by cases rb <;> simp_all
    subst hrb
    have hcb : cl > 1 → cb = true := fun h => by
      rw [decide_eq_true (show (ca, cl, cb).2.1 > 1 from h), Bool.true_and] at h2
      cases cb
      · simp at h2
      · rfl
    rw [hs]
    have e : stp (ca, cl + 1, (-1 : Int) == -1) (prt (ra, rl, false) 1 (rl - 1)) = 1 := by
      unfold stp img at hs
      unfold stp prt img
      simp only [show ((-1 : Int) == -1) = true from rfl, Bool.false_eq_true, if_false, if_true] at hs ⊢
      by_cases hl : cl > 1
      · rw [hcb hl] at hs; simp only [if_true] at hs; omega
      · cases cb <;> simp only [Bool.false_eq_true, if_false, if_true] at hs <;> omega
    show (!((stp (ca, cl + 1, (-1 : Int) == -1) (prt (ra, rl, false) 1 (rl - 1)) == -1) == ((-1 : Int) == -1))) = true
    rw [e]; rfl

theorem iso_part_s (k : Nat) (r : Rn) (x n : Int) (h1 : -4611686018427387904 ≤ r.1) (h2 : r.1 ≤ 4611686018427387903) (h3 : -4611686018427387904 ≤ x) (h4 : x ≤ 4611686018427387903) : f_u32 k r x n = some (prt r x n) := by
  unfold f_u32 prt
  rw [iso_image_s k r x h1 h2 h3 h4, iso_image_v k r x h1 h2 h3 h4]; rfl
theorem iso_part_v (k : Nat) (r : Rn) (x n : Int) (h1 : -4611686018427387904 ≤ r.1) (h2 : r.1 ≤ 4611686018427387903) (h3 : -4611686018427387904 ≤ x) (h4 : x ≤ 4611686018427387903) : v_u32 k r x n = prt r x n := by
  unfold v_u32; rw [iso_part_s k r x n h1 h2 h3 h4]; rfl
theorem ref13_cut_s (k : Nat) (r : Rn) (x n : Int) (h1 : -4611686018427387904 ≤ r.1) (h2 : r.1 ≤ 4611686018427387903) (h3 : -4611686018427387904 ≤ x) (h4 : x ≤ 4611686018427387903) : f_u54 k r x n = some (prt r x n) := by
  unfold f_u54 prt
  rw [ref13_image_s k r x h1 h2 h3 h4, ref13_image_v k r x h1 h2 h3 h4]; rfl
theorem ref13_cut_v (k : Nat) (r : Rn) (x n : Int) (h1 : -4611686018427387904 ≤ r.1) (h2 : r.1 ≤ 4611686018427387903) (h3 : -4611686018427387904 ≤ x) (h4 : x ≤ 4611686018427387903) : v_u54 k r x n = prt r x n := by
  unfold v_u54; rw [ref13_cut_s k r x n h1 h2 h3 h4]; rfl

theorem last_idx (pre : List Rn) (c : Rn) (h : pre.length < 4611686018427387904) : (IntKind.i64.wrap (((pre ++ [c]).length : Int) - 1)).toNat = pre.length := by
  rw [List.length_append, List.length_singleton, wrap_id (by omega) (by omega)]; omega
theorem last_get (pre : List Rn) (c d : Rn) : (pre ++ [c]).getD pre.length d = c := by simp
theorem last_set (pre : List Rn) (c d : Rn) : (pre ++ [c]).set pre.length d = pre ++ [d] := by simp

/-- adding where the run begins anew -/
theorem iso_add_new (k : Nat) (pre : List Rn) (c r : Rn) (hl : pre.length ≤ 1000000000) (hr : ¬ r.2.1 < 1) (b1 : -9007199254740992 ≤ r.1 ∧ r.1 ≤ 9007199254740992) (hc : -9007199254740992 ≤ c.1 ∧ c.1 ≤ 9007199254740992 ∧ 1 ≤ c.2.1 ∧ c.2.1 ≤ 9007199254740992) (ha : apart c r = true) :
    f_u25 (k + 1) (pre ++ [c]) r = some (pre ++ [c] ++ [prt r 0 r.2.1]) := by
  have hi := last_idx pre c (by omega)
  have hlen : (pre ++ [c]).length = pre.length + 1 := by simp
  have hst : IntKind.i64.wrap (r.fst - img c (c.snd.fst - 1)) = stp c r := by
    unfold stp
    refine wrap_id ?_ ?_ <;> unfold img <;> cases c.2.2 <;> simp only [Bool.false_eq_true, if_false, if_true] <;> omega
  unfold f_u25
  rw [decide_eq_false hr, cond_false, show (((pre ++ [c]).length : Int) == 0) = false by rw [hlen]; exact beqf (by omega), cond_false, hi, last_get]
  rw [wrap_id (i := c.snd.fst - 1) (by omega) (by omega), iso_image_s k c _ (by omega) (by omega) (by omega) (by omega), iso_image_v k c _ (by omega) (by omega) (by omega) (by omega), hst]
  rw [if_pos (by rw [hlen, wrap_id (by omega) (by omega)]; exact ⟨by omega, by omega⟩), Option.isSome_some, if_pos rfl]
  have ha' : ((stp c r != 1 && stp c r != -1) || decide (c.snd.fst > 1) && !((stp c r == -1) == c.snd.snd)) = true := ha
  rw [ha', cond_true, iso_part_s k r 0 _ (by omega) (by omega) (by omega) (by omega), iso_part_v k r 0 _ (by omega) (by omega) (by omega) (by omega), if_pos ⟨rfl, by rw [hlen, List.length_singleton]; omega⟩]

theorem iso_add_s (k : Nat) (hk : 4 ≤ k) (b : List Rn) (r : Rn) (hl : b.length ≤ 1000000000) (hr : Bnd r) (hb : ∀ c ∈ b, Bnd c ∧ 1 ≤ c.2.1) : f_u25 k b r = some (addS b r) := by
  obtain ⟨k, rfl⟩ : ∃ m, k = m + 1 := ⟨k - 1, by omega⟩
  obtain ⟨r1, r2, r3, r4⟩ := hr
  by_cases h0 : r.2.1 < 1
  · rw [addS_zero _ _ h0]; unfold f_u25; rw [decide_eq_true h0, cond_true]
  rcases List.eq_nil_or_concat b with rfl | ⟨pre, c, rfl⟩
  · rw [addS_nil _ h0]
    unfold f_u25
    rw [decide_eq_false h0, cond_false, show ((([] : List Rn).length : Int) == 0) = true from rfl, cond_true, iso_part_s k r 0 _ (by omega) (by omega) (by omega) (by omega), iso_part_v k r 0 _ (by omega) (by omega) (by omega) (by omega), if_pos ⟨rfl, by simp⟩]
    rfl
  rw [List.concat_eq_append] at *
  obtain ⟨⟨c1, c2, c3, c4⟩, c5⟩ := hb c (by simp)
  have hlen : (pre ++ [c]).length = pre.length + 1 := by simp
  rw [addS_last _ _ _ h0]
  cases ha : apart c r with
  | true =>
    rw [cond_true]
    exact iso_add_new k pre c r (by omega) h0 ⟨by omega, by omega⟩ ⟨by omega, by omega, by omega, by omega⟩ ha
  | false =>
  rw [cond_false]
  have hi := last_idx pre c (by omega)
  have hst : IntKind.i64.wrap (r.fst - img c (c.snd.fst - 1)) = stp c r := by
    unfold stp
    refine wrap_id ?_ ?_ <;> unfold img <;> cases c.2.2 <;> simp only [Bool.false_eq_true, if_false, if_true] <;> omega
  have ha' : ((stp c r != 1 && stp c r != -1) || decide (c.snd.fst > 1) && !((stp c r == -1) == c.snd.snd)) = false := ha
  unfold f_u25
  rw [decide_eq_false h0, cond_false, show (((pre ++ [c]).length : Int) == 0) = false by rw [hlen]; exact beqf (by omega), cond_false, hi, last_get]
  rw [wrap_id (i := c.snd.fst - 1) (by omega) (by omega), iso_image_s k c _ (by omega) (by omega) (by omega) (by omega), iso_image_v k c _ (by omega) (by omega) (by omega) (by omega), hst]
  have hidx : (0 : Int) ≤ IntKind.i64.wrap (((pre ++ [c]).length : Int) - 1) ∧ IntKind.i64.wrap (((pre ++ [c]).length : Int) - 1) < ((pre ++ [c]).length : Int) := by
    rw [hlen, wrap_id (by omega) (by omega)]; exact ⟨by omega, by omega⟩
  rw [if_pos hidx, Option.isSome_some, if_pos rfl, ha', cond_false]
  rw [wrap_id (i := c.snd.fst + r.snd.fst) (by omega) (by omega), wrap_id (i := c.snd.fst + 1) (by omega) (by omega), wrap_id (i := r.snd.fst - r.snd.fst) (by omega) (by omega), wrap_id (i := r.snd.fst - 1) (by omega) (by omega), last_set, last_set]
  rw [iso_part_s k r r.snd.fst _ (by omega) (by omega) (by omega) (by omega), iso_part_v k r r.snd.fst _ (by omega) (by omega) (by omega) (by omega), iso_part_s k r 1 _ (by omega) (by omega) (by omega) (by omega), iso_part_v k r 1 _ (by omega) (by omega) (by omega) (by omega)]
  obtain ⟨k, rfl⟩ : ∃ m, k = m + 1 := ⟨k - 1, by omega⟩
  have z : ∀ (b : List Rn) (r : Rn), r.2.1 < 1 → f_u25 (k + 1) b r = some b := fun b r h => by
    unfold f_u25; rw [decide_eq_true h, cond_true]
  have w : ∀ (b b' : List Rn) (r : Rn), f_u25 (k + 1) b r = some b' → w_u25 (f_u25 (k + 1)) b r = b' := fun b b' r h => by
    unfold w_u25; rw [h]; rfl
  by_cases hone : r.2.1 > 1
  · rw [decide_eq_true hone, Bool.true_and, Bool.true_and]
    cases hd : (r.snd.snd == (stp c r == -1)) with
    | true =>
      rw [cond_true, Bool.not_true, cond_false, if_pos hidx]
      have e := z (pre ++ [(c.fst, c.snd.fst + r.snd.fst, stp c r == -1)]) (prt r r.snd.fst (r.snd.fst - r.snd.fst)) (by show r.snd.fst - r.snd.fst < 1; omega)
      rw [w _ _ _ e, e, if_pos ⟨rfl, rfl⟩]
    | false =>
      rw [cond_false, Bool.not_false, cond_true, if_pos hidx]
      obtain ⟨p1, p2, p3⟩ := prt_bnd (r := r) ⟨r1, r2, r3, r4⟩ (x := 1) (n := r.2.1 - 1) (by omega) (by omega) (by omega) (by omega)
      have e := iso_add_new k pre (c.fst, c.snd.fst + 1, stp c r == -1) (prt r 1 (r.snd.fst - 1)) (by omega) (by rw [p3]; omega) ⟨by omega, by omega⟩ ⟨by show -9007199254740992 ≤ c.1; omega, by show c.1 ≤ 9007199254740992; omega, by show 1 ≤ c.2.1 + 1; omega, by show c.2.1 + 1 ≤ 9007199254740992; omega⟩ (apart_turn c5 ha hd)
      rw [p3, prt_zero] at e
      rw [w _ _ _ e, e, if_pos ⟨rfl, rfl⟩]
      simp
  · have h1 : r.2.1 = 1 := by omega
    rw [decide_eq_false hone, Bool.false_and, Bool.false_and, cond_false, cond_false, if_pos hidx]
    have e := z (pre ++ [(c.fst, c.snd.fst + 1, stp c r == -1)]) (prt r 1 (r.snd.fst - 1)) (by show r.snd.fst - 1 < 1; omega)
    rw [w _ _ _ e, e, if_pos ⟨rfl, rfl⟩, h1]
theorem iso_add_v (k : Nat) (hk : 4 ≤ k) (b : List Rn) (r : Rn) (hl : b.length ≤ 1000000000) (hr : Bnd r) (hb : ∀ c ∈ b, Bnd c ∧ 1 ≤ c.2.1) : v_u25 k b r = addS b r := by
  unfold v_u25; rw [iso_add_s k hk b r hl hr hb]; rfl
theorem ref13_add_new (k j : Nat) (pre : List Rn) (c r : Rn) (hl : pre.length ≤ 1000000000) (hr : ¬ r.2.1 < 1) (b1 : -9007199254740992 ≤ r.1 ∧ r.1 ≤ 9007199254740992) (hc : -9007199254740992 ≤ c.1 ∧ c.1 ≤ 9007199254740992 ∧ 1 ≤ c.2.1 ∧ c.2.1 ≤ 9007199254740992) (ha : apart c r = true) :
    f_u59_2 k (j + 1) r (pre ++ [c]) = some (pre ++ [c] ++ [prt r 0 r.2.1]) := by
  have hi := last_idx pre c (by omega)
  have hlen : (pre ++ [c]).length = pre.length + 1 := by simp
  have hst : IntKind.i64.wrap (r.fst - img c (c.snd.fst - 1)) = stp c r := by
    unfold stp
    refine wrap_id ?_ ?_ <;> unfold img <;> cases c.2.2 <;> simp only [Bool.false_eq_true, if_false, if_true] <;> omega
  have hidx : (0 : Int) ≤ IntKind.i64.wrap (((pre ++ [c]).length : Int) - 1) ∧ IntKind.i64.wrap (((pre ++ [c]).length : Int) - 1) < ((pre ++ [c]).length : Int) := by
    rw [hlen, wrap_id (by omega) (by omega)]; exact ⟨by omega, by omega⟩
  unfold f_u59_2
  rw [decide_eq_true (by omega : r.snd.fst > 0), cond_true, decide_eq_false (by omega : ¬ IntKind.i64.wrap (((pre ++ [c]).length : Int) - 1) < 0), cond_false, hi, last_get]
  rw [wrap_id (i := c.snd.fst - 1) (by omega) (by omega), ref13_image_s k c _ (by omega) (by omega) (by omega) (by omega), ref13_image_v k c _ (by omega) (by omega) (by omega) (by omega), hst]
  rw [if_pos hidx, Option.isSome_some, if_pos rfl]
  have ha' : ((stp c r != 1 && stp c r != -1) || decide (c.snd.fst > 1) && !(c.snd.snd == (stp c r == -1))) = true := by
    rw [Bool.beq_comm]; exact ha
  rw [ha', cond_true, ref13_cut_s k r 0 _ (by omega) (by omega) (by omega) (by omega), ref13_cut_v k r 0 _ (by omega) (by omega) (by omega) (by omega), if_pos ⟨rfl, by rw [hlen, List.length_singleton]; omega⟩]

theorem ref13_more_l (k j : Nat) (b : List Rn) (r : Rn) (hl : b.length ≤ 1000000000) (hr : Bnd r) (hb : ∀ c ∈ b, Bnd c ∧ 1 ≤ c.2.1) : f_u59_2 k (j + 2) r b = some (addS b r) := by
  obtain ⟨r1, r2, r3, r4⟩ := hr
  by_cases h0 : r.2.1 < 1
  · rw [addS_zero _ _ h0]; unfold f_u59_2; rw [decide_eq_false (by omega : ¬ r.snd.fst > 0), cond_false]
  rcases List.eq_nil_or_concat b with rfl | ⟨pre, c, rfl⟩
  · rw [addS_nil _ h0]
    unfold f_u59_2
    rw [decide_eq_true (by omega : r.snd.fst > 0), cond_true, show IntKind.i64.wrap ((([] : List Rn).length : Int) - 1) = -1 by rw [List.length_nil, wrap_id (by omega) (by omega)]; rfl, decide_eq_true (by omega : (-1 : Int) < 0), cond_true, ref13_cut_s k r 0 _ (by omega) (by omega) (by omega) (by omega), ref13_cut_v k r 0 _ (by omega) (by omega) (by omega) (by omega), if_pos ⟨rfl, by simp⟩]
    rfl
  rw [List.concat_eq_append] at *
  obtain ⟨⟨c1, c2, c3, c4⟩, c5⟩ := hb c (by simp)
  have hlen : (pre ++ [c]).length = pre.length + 1 := by simp
  rw [addS_last _ _ _ h0]
  cases ha : apart c r with
  | true =>
    rw [cond_true]
    exact ref13_add_new k (j + 1) pre c r (by omega) h0 ⟨by omega, by omega⟩ ⟨by omega, by omega, by omega, by omega⟩ ha
  | false =>
  rw [cond_false]
  have hi := last_idx pre c (by omega)
  have hst : IntKind.i64.wrap (r.fst - img c (c.snd.fst - 1)) = stp c r := by
    unfold stp
    refine wrap_id ?_ ?_ <;> unfold img <;> cases c.2.2 <;> simp only [Bool.false_eq_true, if_false, if_true] <;> omega
  have ha' : ((stp c r != 1 && stp c r != -1) || decide (c.snd.fst > 1) && !(c.snd.snd == (stp c r == -1))) = false := by
    rw [Bool.beq_comm]; exact ha
  have hidx : (0 : Int) ≤ IntKind.i64.wrap (((pre ++ [c]).length : Int) - 1) ∧ IntKind.i64.wrap (((pre ++ [c]).length : Int) - 1) < ((pre ++ [c]).length : Int) := by
    rw [hlen, wrap_id (by omega) (by omega)]; exact ⟨by omega, by omega⟩
  rw [f_u59_2]
  rw [decide_eq_true (by omega : r.snd.fst > 0), cond_true, decide_eq_false (by omega : ¬ IntKind.i64.wrap (((pre ++ [c]).length : Int) - 1) < 0), cond_false, hi, last_get]
  rw [wrap_id (i := c.snd.fst - 1) (by omega) (by omega), ref13_image_s k c _ (by omega) (by omega) (by omega) (by omega), ref13_image_v k c _ (by omega) (by omega) (by omega) (by omega), hst]
  rw [if_pos hidx, Option.isSome_some, if_pos rfl, ha', cond_false]
  rw [wrap_id (i := c.snd.fst + r.snd.fst) (by omega) (by omega), wrap_id (i := c.snd.fst + 1) (by omega) (by omega), wrap_id (i := r.snd.fst - r.snd.fst) (by omega) (by omega), wrap_id (i := r.snd.fst - 1) (by omega) (by omega), last_set, last_set]
  rw [ref13_cut_s k r 1 _ (by omega) (by omega) (by omega) (by omega), ref13_cut_v k r 1 _ (by omega) (by omega) (by omega) (by omega)]
  cases hd : (decide (r.snd.fst > 1) && !(r.snd.snd == (stp c r == -1))) with
  | true =>
    rw [cond_true, cond_true, if_pos hidx]
    simp only [Bool.and_eq_true, decide_eq_true_eq] at hd
    obtain ⟨hone, hd⟩ := hd
    have hd : (r.2.2 == (stp c r == -1)) = false := by
      cases e : (r.2.2 == (stp c r == -1)) with
      | false => rfl
      | true => rw [show r.snd.snd = r.2.2 from rfl, e] at hd; cases hd
    rw [show ((1 : Int) == r.snd.fst) = false by exact beqf (by omega), cond_false, Option.isSome_some, if_pos rfl]
    obtain ⟨p1, p2, p3⟩ := prt_bnd (r := r) ⟨r1, r2, r3, r4⟩ (x := 1) (n := r.2.1 - 1) (by omega) (by omega) (by omega) (by omega)
    have e := ref13_add_new k j pre (c.fst, c.snd.fst + 1, stp c r == -1) (prt r 1 (r.snd.fst - 1)) (by omega) (by rw [p3]; omega) ⟨by omega, by omega⟩ ⟨by show -9007199254740992 ≤ c.1; omega, by show c.1 ≤ 9007199254740992; omega, by show 1 ≤ c.2.1 + 1; omega, by show c.2.1 + 1 ≤ 9007199254740992; omega⟩ (apart_turn c5 ha hd)
    rw [p3, prt_zero] at e
    rw [e]
    simp
  | false =>
    rw [cond_false, cond_false, if_pos hidx, beq_self_eq_true, cond_true]
theorem ref13_more_s (k : Nat) (hk : 4 ≤ k) (b : List Rn) (r : Rn) (hl : b.length ≤ 1000000000) (hr : Bnd r) (hb : ∀ c ∈ b, Bnd c ∧ 1 ≤ c.2.1) : f_u59 k b r = some (addS b r) := by
  unfold f_u59
  rw [if_pos (by omega), List.nil_append]
  obtain ⟨j, rfl⟩ : ∃ m, k = m + 2 := ⟨k - 2, by omega⟩
  exact ref13_more_l _ j b r hl hr hb
theorem ref13_more_v (k : Nat) (hk : 4 ≤ k) (b : List Rn) (r : Rn) (hl : b.length ≤ 1000000000) (hr : Bnd r) (hb : ∀ c ∈ b, Bnd c ∧ 1 ≤ c.2.1) : v_u59 k b r = addS b r := by
  unfold v_u59; rw [ref13_more_s k hk b r hl hr hb]; rfl
end Go.AM
namespace Go.AM
open Go Go.Proofs
noncomputable section
abbrev R_u3 : Type := Bool
def res_u3 (r : R_u3) : AV := .r (.v (.bool r))
def bo_u3 (core_ : Int) (caliper_ : Int) (r : R_u3) : List (Nat × Blk) := []
def args_u3 (core_ : Int) (caliper_ : Int) : List AV := [.r (.v (.int .i64 core_)), .r (.v (.int .i64 caliper_))]
def bin_u3 (core_ : Int) (caliper_ : Int) : List Blk := []
abbrev C_u3 (core_ : Int) (caliper_ : Int) (r : R_u3) : Prop := CC Tryz.prog 48 (args_u3 core_ caliper_) (bin_u3 core_ caliper_) (res_u3 r) (bo_u3 core_ caliper_ r)
def f_u3 (k : Nat) (core_ : Int) (caliper_ : Int) : Option R_u3 :=
  some (decide (core_ ≥ 1) && decide (core_ ≤ 2500) && decide (caliper_ ≥ 1) && decide (caliper_ ≤ 5000))
def v_u3 (k : Nat) (core_ : Int) (caliper_ : Int) : R_u3 := (f_u3 k core_ caliper_).getD false
def ke_u3 (k : Nat) : Ke := (48, fun xs => match xs with
  | [_, _] => some [false, false]
  | _ => none, fun xs bs => match xs, bs with
  | [.r (.v (.int .i64 core_)), .r (.v (.int .i64 caliper_))], [] => some (.one (res_u3 (v_u3 k core_ caliper_), bo_u3 core_ caliper_ (v_u3 k core_ caliper_)))
  | _, _ => none)
theorem of_u3 (k : Nat) (core_ : Int) (caliper_ : Int) (r : R_u3) (h : f_u3 k core_ caliper_ = some r) : C_u3 core_ caliper_ r := by
  refine CC.of (fn := Tryz.f48) (by kernel_rfl) (by kernel_rfl) (by kernel_rfl) (by kernel_rfl) ?_
  unfold f_u3 at h
  exact go (mkK []) [] [] [.autoB [4] true []] (gL h) (by kernel_rfl)
theorem cc_u3 {k : Nat} {core_ : Int} {caliper_ : Int} (h : (f_u3 k core_ caliper_).isSome = true) : C_u3 core_ caliper_ (v_u3 k core_ caliper_) := ccG (Φ := C_u3 core_ caliper_) h (of_u3 k core_ caliper_)
abbrev R_u4 : Type := Int
def res_u4 (r : R_u4) : AV := .r (.v (.int .i64 r))
def bo_u4 (core_ : Int) (dia_ : Int) (caliper_ : Int) (r : R_u4) : List (Nat × Blk) := []
def args_u4 (core_ : Int) (dia_ : Int) (caliper_ : Int) : List AV := [.r (.v (.int .i64 core_)), .r (.v (.int .i64 dia_)), .r (.v (.int .i64 caliper_))]
def bin_u4 (core_ : Int) (dia_ : Int) (caliper_ : Int) : List Blk := []
abbrev C_u4 (core_ : Int) (dia_ : Int) (caliper_ : Int) (r : R_u4) : Prop := CC Tryz.prog 51 (args_u4 core_ dia_ caliper_) (bin_u4 core_ dia_ caliper_) (res_u4 r) (bo_u4 core_ dia_ caliper_ r)
def f_u4 (k : Nat) (core_ : Int) (dia_ : Int) (caliper_ : Int) : Option R_u4 :=
  if (IntKind.i64.wrap ((1000000000 : Int) * caliper_) ≠ (0 : Int)) then
  some (IntKind.i64.wrap ((IntKind.i64.wrap (3141592653 * IntKind.i64.wrap (IntKind.i64.wrap (IntKind.i64.wrap (dia_ * dia_) - IntKind.i64.wrap (core_ * core_)) * 250))).tdiv (IntKind.i64.wrap (1000000000 * caliper_))))
  else none
def v_u4 (k : Nat) (core_ : Int) (dia_ : Int) (caliper_ : Int) : R_u4 := (f_u4 k core_ dia_ caliper_).getD 0
def ke_u4 (k : Nat) : Ke := (51, fun xs => match xs with
  | [_, _, _] => some [false, false, false]
  | _ => none, fun xs bs => match xs, bs with
  | [.r (.v (.int .i64 core_)), .r (.v (.int .i64 dia_)), .r (.v (.int .i64 caliper_))], [] => some (.one (res_u4 (v_u4 k core_ dia_ caliper_), bo_u4 core_ dia_ caliper_ (v_u4 k core_ dia_ caliper_)))
  | _, _ => none)
theorem of_u4 (k : Nat) (core_ : Int) (dia_ : Int) (caliper_ : Int) (r : R_u4) (h : f_u4 k core_ dia_ caliper_ = some r) : C_u4 core_ dia_ caliper_ r := by
  refine CC.of (fn := Tryz.f51) (by kernel_rfl) (by kernel_rfl) (by kernel_rfl) (by kernel_rfl) ?_
  unfold f_u4 at h
  exact go (mkK []) [] [] [.autoB [6] true []] (gN1 h id fun h => gL h) (by kernel_rfl)
theorem cc_u4 {k : Nat} {core_ : Int} {dia_ : Int} {caliper_ : Int} (h : (f_u4 k core_ dia_ caliper_).isSome = true) : C_u4 core_ dia_ caliper_ (v_u4 k core_ dia_ caliper_) := ccG (Φ := C_u4 core_ dia_ caliper_) h (of_u4 k core_ dia_ caliper_)
abbrev R_u2 : Type := Bool
def res_u2 (r : R_u2) : AV := .r (.v (.bool r))
def bo_u2 (n_ : Int) (z00 : Int) (z10 : Int) (z20 : Int) (r : R_u2) : List (Nat × Blk) := [(0, .var 3 [.r (.v (.int .i64 z00))]), (0, .var 3 [.r (.v (.int .i64 z10))]), (0, .var 3 [.r (.v (.int .i64 z20))])]
def args_u2 (n_ : Int) (z00 : Int) (z10 : Int) (z20 : Int) : List AV := [.r (.v (.int .i64 n_)), .ptr 0 0 0, .ptr 1 0 0, .ptr 2 0 0]
def bin_u2 (n_ : Int) (z00 : Int) (z10 : Int) (z20 : Int) : List Blk := [.var 3 [.r (.v (.int .i64 z00))], .var 3 [.r (.v (.int .i64 z10))], .var 3 [.r (.v (.int .i64 z20))]]
abbrev C_u2 (n_ : Int) (z00 : Int) (z10 : Int) (z20 : Int) (r : R_u2) : Prop := CC Tryz.prog 50 (args_u2 n_ z00 z10 z20) (bin_u2 n_ z00 z10 z20) (res_u2 r) (bo_u2 n_ z00 z10 z20 r)
def f_u2 (k : Nat) (n_ : Int) (z00 : Int) (z10 : Int) (z20 : Int) : Option R_u2 :=
  if ((f_u4 k z00 (IntKind.i64.wrap (z00 + n_)) z10).isSome = true) then
  some (decide (v_u4 k z00 (IntKind.i64.wrap (z00 + n_)) z10 ≥ z20))
  else none
def v_u2 (k : Nat) (n_ : Int) (z00 : Int) (z10 : Int) (z20 : Int) : R_u2 := (f_u2 k n_ z00 z10 z20).getD false
def ke_u2 (k : Nat) : Ke := (50, fun xs => match xs with
  | [_, .ptr _ _ _, .ptr _ _ _, .ptr _ _ _] => some [false, true, true, true]
  | _ => none, fun xs bs => match xs, bs with
  | [.r (.v (.int .i64 n_)), .ptr 0 0 0, .ptr 1 0 0, .ptr 2 0 0], [.var 3 [.r (.v (.int .i64 z00))], .var 3 [.r (.v (.int .i64 z10))], .var 3 [.r (.v (.int .i64 z20))]] => some (.one (res_u2 (v_u2 k n_ z00 z10 z20), bo_u2 n_ z00 z10 z20 (v_u2 k n_ z00 z10 z20)))
  | _, _ => none)
theorem of_u2 (k : Nat) (n_ : Int) (z00 : Int) (z10 : Int) (z20 : Int) (r : R_u2) (h : f_u2 k n_ z00 z10 z20 = some r) : C_u2 n_ z00 z10 z20 r := by
  refine CC.of (fn := Tryz.f50) (by kernel_rfl) (by kernel_rfl) (by kernel_rfl) (by kernel_rfl) ?_
  unfold f_u2 at h
  exact go (mkK [ke_u4 k]) [] [] [.autoB [5] true []] (gN1 h (fun q => cc_u4 q) fun h => gL h) (by kernel_rfl)
theorem cc_u2 {k : Nat} {n_ : Int} {z00 : Int} {z10 : Int} {z20 : Int} (h : (f_u2 k n_ z00 z10 z20).isSome = true) : C_u2 n_ z00 z10 z20 (v_u2 k n_ z00 z10 z20) := ccG (Φ := C_u2 n_ z00 z10 z20) h (of_u2 k n_ z00 z10 z20)
abbrev R_u105 : Type := Int
def res_u105 (r : R_u105) : AV := .r (.v (.int .i64 r))
def bo_u105 (n_ : Int) (f_c00 : Int) (f_c10 : Int) (f_c20 : Int) (r : R_u105) : List (Nat × Blk) := [(0, .var 3 [.r (.v (.int .i64 f_c00))]), (0, .var 3 [.r (.v (.int .i64 f_c10))]), (0, .var 3 [.r (.v (.int .i64 f_c20))])]
def args_u105 (n_ : Int) (f_c00 : Int) (f_c10 : Int) (f_c20 : Int) : List AV := [.r (.v (.int .i64 n_)), .fn (.func 50) [] [.ptr 0 0 0, .ptr 1 0 0, .ptr 2 0 0]]
def bin_u105 (n_ : Int) (f_c00 : Int) (f_c10 : Int) (f_c20 : Int) : List Blk := [.var 3 [.r (.v (.int .i64 f_c00))], .var 3 [.r (.v (.int .i64 f_c10))], .var 3 [.r (.v (.int .i64 f_c20))]]
abbrev C_u105 (n_ : Int) (f_c00 : Int) (f_c10 : Int) (f_c20 : Int) (r : R_u105) : Prop := CC Tryz.prog 49 (args_u105 n_ f_c00 f_c10 f_c20) (bin_u105 n_ f_c00 f_c10 f_c20) (res_u105 r) (bo_u105 n_ f_c00 f_c10 f_c20 r)
def st_u105_2 (n_ : Int) (f_c00 : Int) (f_c10 : Int) (f_c20 : Int) (y0 : Int) (y1 : Int) : St := ⟨mkS 26 [(1, .fn ((Fn.func 50)) [] [.ptr 0 0 0, .ptr 1 0 0, .ptr 2 0 0]), (5, .r (.v (.int .i64 y0))), (6, .r (.v (.int .i64 y1)))], [(0, 0, .var 3 [.r (.v (.int .i64 f_c00))]), (1, 0, .var 3 [.r (.v (.int .i64 f_c10))]), (2, 0, .var 3 [.r (.v (.int .i64 f_c20))])]⟩
def f_u105_2 (k : Nat) (n_ : Int) (f_c00 : Int) (f_c10 : Int) (f_c20 : Int) : Nat → Int → Int → Option R_u105
  | 0, _, _ => none
  | j + 1, y0, y1 =>
  bif (decide (y0 < y1)) then
  if ((f_u2 k (IntKind.i64.wrap ((IntKind.u64.wrap (IntKind.i64.wrap (y0 + y1))).fdiv (2 ^ min (Int.toNat 1) IntKind.u64.bits))) f_c00 f_c10 f_c20).isSome = true) then
  bif (!v_u2 k (IntKind.i64.wrap ((IntKind.u64.wrap (IntKind.i64.wrap (y0 + y1))).fdiv ((2 : Int) ^ min (Int.toNat (1 : Int)) IntKind.u64.bits))) f_c00 f_c10 f_c20) then
  f_u105_2 k n_ f_c00 f_c10 f_c20 j ((IntKind.i64.wrap (IntKind.i64.wrap ((IntKind.u64.wrap (IntKind.i64.wrap (y0 + y1))).fdiv (2 ^ min (Int.toNat 1) IntKind.u64.bits)) + 1))) y1
  else
  f_u105_2 k n_ f_c00 f_c10 f_c20 j y0 ((IntKind.i64.wrap ((IntKind.u64.wrap (IntKind.i64.wrap (y0 + y1))).fdiv (2 ^ min (Int.toNat 1) IntKind.u64.bits))))
  else none
  else
  some y0
def f_u105 (k : Nat) (n_ : Int) (f_c00 : Int) (f_c10 : Int) (f_c20 : Int) : Option R_u105 :=
  f_u105_2 k n_ f_c00 f_c10 f_c20 k 0 n_
def v_u105 (k : Nat) (n_ : Int) (f_c00 : Int) (f_c10 : Int) (f_c20 : Int) : R_u105 := (f_u105 k n_ f_c00 f_c10 f_c20).getD 0
def ke_u105 (k : Nat) : Ke := (49, fun xs => match xs with
  | [_, .fn (.func 50) _ _] => some [false, true]
  | _ => none, fun xs bs => match xs, bs with
  | [.r (.v (.int .i64 n_)), .fn (.func 50) [] [.ptr 0 0 0, .ptr 1 0 0, .ptr 2 0 0]], [.var 3 [.r (.v (.int .i64 f_c00))], .var 3 [.r (.v (.int .i64 f_c10))], .var 3 [.r (.v (.int .i64 f_c20))]] => some (.one (res_u105 (v_u105 k n_ f_c00 f_c10 f_c20), bo_u105 n_ f_c00 f_c10 f_c20 (v_u105 k n_ f_c00 f_c10 f_c20)))
  | _, _ => none)
def cs_u105 : List (Nat × List Cmd) := [(2, [.autoB [1, 5, 6] false []])]
abbrev E_u105 (n_ : Int) (f_c00 : Int) (f_c10 : Int) (f_c20 : Int) (todo : List Item) (st : St) (o : Option R_u105) : Prop := ∀ r, o = some r → Ev Tryz.prog Tryz.f49 3 todo st (res_u105 r) (bo_u105 n_ f_c00 f_c10 f_c20 r)
theorem ev_u105 (k : Nat) (n_ : Int) (f_c00 : Int) (f_c10 : Int) (f_c20 : Int) : ∀ j, (∀ (y0 : Int) (y1 : Int), E_u105 n_ f_c00 f_c10 f_c20 (placeAt Tryz.f49 2) (st_u105_2 n_ f_c00 f_c10 f_c20 y0 y1) (f_u105_2 k n_ f_c00 f_c10 f_c20 j y0 y1))
  | 0 => fun _ _ _ h => (nomatch h)
  | j + 1 => by
    have ih := @ev_u105 k n_ f_c00 f_c10 f_c20 j
    · intro y0 y1 r h
      rw [f_u105_2] at h
      exact go (mkK [ke_u2 k]) [] cs_u105 [.autoB [4] true []] (gT h (fun c h => gN1 h (fun q => cc_u2 q) fun h => gT h (fun c h => gC h 2 (ih _ _ _)) fun c h => gC h 2 (ih _ _ _)) fun c h => gL h) (by kernel_rfl)
theorem of_u105 (k : Nat) (n_ : Int) (f_c00 : Int) (f_c10 : Int) (f_c20 : Int) (r : R_u105) (h : f_u105 k n_ f_c00 f_c10 f_c20 = some r) : C_u105 n_ f_c00 f_c10 f_c20 r := by
  refine CC.of (fn := Tryz.f49) (by kernel_rfl) (by kernel_rfl) (by kernel_rfl) (by kernel_rfl) ?_
  unfold f_u105 at h
  exact go (mkK [ke_u2 k]) [] cs_u105 [.autoB [4] true []] (gC h 2 ((ev_u105 k n_ f_c00 f_c10 f_c20 k) _ _ _)) (by kernel_rfl)
theorem cc_u105 {k : Nat} {n_ : Int} {f_c00 : Int} {f_c10 : Int} {f_c20 : Int} (h : (f_u105 k n_ f_c00 f_c10 f_c20).isSome = true) : C_u105 n_ f_c00 f_c10 f_c20 (v_u105 k n_ f_c00 f_c10 f_c20) := ccG (Φ := C_u105 n_ f_c00 f_c10 f_c20) h (of_u105 k n_ f_c00 f_c10 f_c20)
abbrev R_u1 : Type := Int × Int
def res_u1 (r : R_u1) : AV := .tup [.r (.v (.int .i64 r.1)), .r (.v (.int .i64 r.2))]
def bo_u1 (core_ : Int) (length_ : Int) (caliper_ : Int) (r : R_u1) : List (Nat × Blk) := []
def args_u1 (core_ : Int) (length_ : Int) (caliper_ : Int) : List AV := [.r (.v (.int .i64 core_)), .r (.v (.int .i64 length_)), .r (.v (.int .i64 caliper_))]
def bin_u1 (core_ : Int) (length_ : Int) (caliper_ : Int) : List Blk := []
abbrev C_u1 (core_ : Int) (length_ : Int) (caliper_ : Int) (r : R_u1) : Prop := CC Tryz.prog 22 (args_u1 core_ length_ caliper_) (bin_u1 core_ length_ caliper_) (res_u1 r) (bo_u1 core_ length_ caliper_ r)
def f_u1 (k : Nat) (core_ : Int) (length_ : Int) (caliper_ : Int) : Option R_u1 :=
  if ((f_u3 k core_ caliper_).isSome = true) then
  bif (!v_u3 k core_ caliper_ || decide (length_ < (0 : Int)) || decide (length_ > (17179869184 : Int))) then
  some ((0, 1))
  else
  if ((f_u105 k (IntKind.i64.wrap (IntKind.i64.wrap (2500 - core_) + 1)) core_ caliper_ length_).isSome = true) then
  bif (decide (IntKind.i64.wrap (core_ + v_u105 k (IntKind.i64.wrap (IntKind.i64.wrap ((2500 : Int) - core_) + (1 : Int))) core_ caliper_ length_) > (2500 : Int))) then
  some ((0, 32))
  else
  some ((IntKind.i64.wrap (core_ + v_u105 k (IntKind.i64.wrap (IntKind.i64.wrap (2500 - core_) + 1)) core_ caliper_ length_), 0))
  else none
  else none
def v_u1 (k : Nat) (core_ : Int) (length_ : Int) (caliper_ : Int) : R_u1 := (f_u1 k core_ length_ caliper_).getD (0, 0)
def ke_u1 (k : Nat) : Ke := (22, fun xs => match xs with
  | [_, _, _] => some [false, false, false]
  | _ => none, fun xs bs => match xs, bs with
  | [.r (.v (.int .i64 core_)), .r (.v (.int .i64 length_)), .r (.v (.int .i64 caliper_))], [] => some (.one (res_u1 (v_u1 k core_ length_ caliper_), bo_u1 core_ length_ caliper_ (v_u1 k core_ length_ caliper_)))
  | _, _ => none)
theorem of_u1 (k : Nat) (core_ : Int) (length_ : Int) (caliper_ : Int) (r : R_u1) (h : f_u1 k core_ length_ caliper_ = some r) : C_u1 core_ length_ caliper_ r := by
  refine CC.of (fn := Tryz.f22) (by kernel_rfl) (by kernel_rfl) (by kernel_rfl) (by kernel_rfl) ?_
  unfold f_u1 at h
  exact go (mkK [ke_u3 k, ke_u2 k, ke_u105 k]) [] [] [.autoB [6, 7] true []] (gN1 h (fun q => cc_u3 q) fun h => gT h (fun c h => gL h) fun c h => gN1 h (fun q => cc_u105 q) fun h => gT h (fun c h => gL h) fun c h => gL h) (by kernel_rfl)
theorem cc_u1 {k : Nat} {core_ : Int} {length_ : Int} {caliper_ : Int} (h : (f_u1 k core_ length_ caliper_).isSome = true) : C_u1 core_ length_ caliper_ (v_u1 k core_ length_ caliper_) := ccG (Φ := C_u1 core_ length_ caliper_) h (of_u1 k core_ length_ caliper_)
abbrev R_u70 : Type := Int
def res_u70 (r : R_u70) : AV := .r (.v (.int .i64 r))
def bo_u70 (core_ : Int) (dia_ : Int) (caliper_ : Int) (r : R_u70) : List (Nat × Blk) := []
def args_u70 (core_ : Int) (dia_ : Int) (caliper_ : Int) : List AV := [.r (.v (.int .i64 core_)), .r (.v (.int .i64 dia_)), .r (.v (.int .i64 caliper_))]
def bin_u70 (core_ : Int) (dia_ : Int) (caliper_ : Int) : List Blk := []
abbrev C_u70 (core_ : Int) (dia_ : Int) (caliper_ : Int) (r : R_u70) : Prop := CC Tryz.prog 80 (args_u70 core_ dia_ caliper_) (bin_u70 core_ dia_ caliper_) (res_u70 r) (bo_u70 core_ dia_ caliper_ r)
def f_u70 (k : Nat) (core_ : Int) (dia_ : Int) (caliper_ : Int) : Option R_u70 :=
  bif (decide (core_ < (1 : Int)) || decide (core_ > (2500 : Int)) || decide (dia_ < (1 : Int)) || decide (dia_ > (2500 : Int)) || decide (caliper_ < (1 : Int)) || decide (caliper_ > (5000 : Int))) then
  some 1
  else
  bif (decide (dia_ < core_)) then
  some 9
  else
  some 0
def v_u70 (k : Nat) (core_ : Int) (dia_ : Int) (caliper_ : Int) : R_u70 := (f_u70 k core_ dia_ caliper_).getD 0
def ke_u70 (k : Nat) : Ke := (80, fun xs => match xs with
  | [_, _, _] => some [false, false, false]
  | _ => none, fun xs bs => match xs, bs with
  | [.r (.v (.int .i64 core_)), .r (.v (.int .i64 dia_)), .r (.v (.int .i64 caliper_))], [] => some (.one (res_u70 (v_u70 k core_ dia_ caliper_), bo_u70 core_ dia_ caliper_ (v_u70 k core_ dia_ caliper_)))
  | _, _ => none)
theorem of_u70 (k : Nat) (core_ : Int) (dia_ : Int) (caliper_ : Int) (r : R_u70) (h : f_u70 k core_ dia_ caliper_ = some r) : C_u70 core_ dia_ caliper_ r := by
  refine CC.of (fn := Tryz.f80) (by kernel_rfl) (by kernel_rfl) (by kernel_rfl) (by kernel_rfl) ?_
  unfold f_u70 at h
  exact go (mkK []) [] [] [.autoB [6] true []] (gT h (fun c h => gL h) fun c h => gT h (fun c h => gL h) fun c h => gL h) (by kernel_rfl)
theorem cc_u70 {k : Nat} {core_ : Int} {dia_ : Int} {caliper_ : Int} (h : (f_u70 k core_ dia_ caliper_).isSome = true) : C_u70 core_ dia_ caliper_ (v_u70 k core_ dia_ caliper_) := ccG (Φ := C_u70 core_ dia_ caliper_) h (of_u70 k core_ dia_ caliper_)
abbrev R_u69 : Type := Int × Int
def res_u69 (r : R_u69) : AV := .tup [.r (.v (.int .i64 r.1)), .r (.v (.int .i64 r.2))]
def bo_u69 (core_ : Int) (dia_ : Int) (caliper_ : Int) (r : R_u69) : List (Nat × Blk) := []
def args_u69 (core_ : Int) (dia_ : Int) (caliper_ : Int) : List AV := [.r (.v (.int .i64 core_)), .r (.v (.int .i64 dia_)), .r (.v (.int .i64 caliper_))]
def bin_u69 (core_ : Int) (dia_ : Int) (caliper_ : Int) : List Blk := []
abbrev C_u69 (core_ : Int) (dia_ : Int) (caliper_ : Int) (r : R_u69) : Prop := CC Tryz.prog 60 (args_u69 core_ dia_ caliper_) (bin_u69 core_ dia_ caliper_) (res_u69 r) (bo_u69 core_ dia_ caliper_ r)
def f_u69 (k : Nat) (core_ : Int) (dia_ : Int) (caliper_ : Int) : Option R_u69 :=
  if ((f_u70 k core_ dia_ caliper_).isSome = true) then
  bif (v_u70 k core_ dia_ caliper_ != (0 : Int)) then
  some ((0, v_u70 k core_ dia_ caliper_))
  else
  if (IntKind.i64.wrap ((1000000000 : Int) * caliper_) ≠ (0 : Int)) then
  some ((IntKind.i64.wrap ((IntKind.i64.wrap (IntKind.i64.wrap (3141592653 * IntKind.i64.wrap (IntKind.i64.wrap (dia_ * dia_) - IntKind.i64.wrap (core_ * core_))) * 250)).tdiv (IntKind.i64.wrap (1000000000 * caliper_))), 0))
  else none
  else none
def v_u69 (k : Nat) (core_ : Int) (dia_ : Int) (caliper_ : Int) : R_u69 := (f_u69 k core_ dia_ caliper_).getD (0, 0)
def ke_u69 (k : Nat) : Ke := (60, fun xs => match xs with
  | [_, _, _] => some [false, false, false]
  | _ => none, fun xs bs => match xs, bs with
  | [.r (.v (.int .i64 core_)), .r (.v (.int .i64 dia_)), .r (.v (.int .i64 caliper_))], [] => some (.one (res_u69 (v_u69 k core_ dia_ caliper_), bo_u69 core_ dia_ caliper_ (v_u69 k core_ dia_ caliper_)))
  | _, _ => none)
theorem of_u69 (k : Nat) (core_ : Int) (dia_ : Int) (caliper_ : Int) (r : R_u69) (h : f_u69 k core_ dia_ caliper_ = some r) : C_u69 core_ dia_ caliper_ r := by
  refine CC.of (fn := Tryz.f60) (by kernel_rfl) (by kernel_rfl) (by kernel_rfl) (by kernel_rfl) ?_
  unfold f_u69 at h
  exact go (mkK [ke_u70 k]) [] [] [.autoB [6, 7] true []] (gN1 h (fun q => cc_u70 q) fun h => gT h (fun c h => gL h) fun c h => gN1 h id fun h => gL h) (by kernel_rfl)
theorem cc_u69 {k : Nat} {core_ : Int} {dia_ : Int} {caliper_ : Int} (h : (f_u69 k core_ dia_ caliper_).isSome = true) : C_u69 core_ dia_ caliper_ (v_u69 k core_ dia_ caliper_) := ccG (Φ := C_u69 core_ dia_ caliper_) h (of_u69 k core_ dia_ caliper_)
abbrev R_u68 : Type := Int × Int
def res_u68 (r : R_u68) : AV := .tup [.r (.v (.int .i64 r.1)), .r (.v (.int .i64 r.2))]
def bo_u68 (core_ : Int) (length_ : Int) (caliper_ : Int) (r : R_u68) : List (Nat × Blk) := []
def args_u68 (core_ : Int) (length_ : Int) (caliper_ : Int) : List AV := [.r (.v (.int .i64 core_)), .r (.v (.int .i64 length_)), .r (.v (.int .i64 caliper_))]
def bin_u68 (core_ : Int) (length_ : Int) (caliper_ : Int) : List Blk := []
abbrev C_u68 (core_ : Int) (length_ : Int) (caliper_ : Int) (r : R_u68) : Prop := CC Tryz.prog 28 (args_u68 core_ length_ caliper_) (bin_u68 core_ length_ caliper_) (res_u68 r) (bo_u68 core_ length_ caliper_ r)
def st_u68_4 (y0 : Int) (y1 : Int) (y2 : Int) (y3 : Int) : St := ⟨mkS 49 [(0, .r (.v (.int .i64 y0))), (1, .r (.v (.int .i64 y1))), (2, .r (.v (.int .i64 y2))), (8, .r (.v (.int .i64 y3)))], []⟩
def f_u68_4 (k : Nat) : Nat → Int → Int → Int → Int → Option R_u68
  | 0, _, _, _, _ => none
  | j + 1, y0, y1, y2, y3 =>
  bif (decide (y3 ≤ (2500 : Int))) then
  if ((f_u69 k y0 y3 y2).isSome = true) then
  bif (decide ((v_u69 k y0 y3 y2).1 ≥ y1)) then
  some ((y3, 0))
  else
  f_u68_4 k j y0 y1 y2 ((IntKind.i64.wrap (y3 + 1)))
  else none
  else
  some ((0, 32))
def f_u68 (k : Nat) (core_ : Int) (length_ : Int) (caliper_ : Int) : Option R_u68 :=
  bif (decide (core_ < (1 : Int)) || decide (core_ > (2500 : Int)) || decide (length_ < (0 : Int)) || decide (length_ > (17179869184 : Int)) || decide (caliper_ < (1 : Int)) || decide (caliper_ > (5000 : Int))) then
  some ((0, 1))
  else
  f_u68_4 k k core_ length_ caliper_ core_
def v_u68 (k : Nat) (core_ : Int) (length_ : Int) (caliper_ : Int) : R_u68 := (f_u68 k core_ length_ caliper_).getD (0, 0)
def ke_u68 (k : Nat) : Ke := (28, fun xs => match xs with
  | [_, _, _] => some [false, false, false]
  | _ => none, fun xs bs => match xs, bs with
  | [.r (.v (.int .i64 core_)), .r (.v (.int .i64 length_)), .r (.v (.int .i64 caliper_))], [] => some (.one (res_u68 (v_u68 k core_ length_ caliper_), bo_u68 core_ length_ caliper_ (v_u68 k core_ length_ caliper_)))
  | _, _ => none)
def cs_u68 : List (Nat × List Cmd) := [(4, [.autoB [0, 1, 2, 8] false []])]
abbrev E_u68 (core_ : Int) (length_ : Int) (caliper_ : Int) (todo : List Item) (st : St) (o : Option R_u68) : Prop := ∀ r, o = some r → Ev Tryz.prog Tryz.f28 0 todo st (res_u68 r) (bo_u68 core_ length_ caliper_ r)
theorem ev_u68 (k : Nat) (core_ : Int) (length_ : Int) (caliper_ : Int) : ∀ j, (∀ (y0 : Int) (y1 : Int) (y2 : Int) (y3 : Int), E_u68 core_ length_ caliper_ (placeAt Tryz.f28 4) (st_u68_4 y0 y1 y2 y3) (f_u68_4 k j y0 y1 y2 y3))
  | 0 => fun _ _ _ _ _ h => (nomatch h)
  | j + 1 => by
    have ih := @ev_u68 k core_ length_ caliper_ j
    · intro y0 y1 y2 y3 r h
      rw [f_u68_4] at h
      exact go (mkK [ke_u69 k]) [] cs_u68 [.autoB [6, 7] true []] (gT h (fun c h => gN1 h (fun q => cc_u69 q) fun h => gT h (fun c h => gL h) fun c h => gC h 4 (ih _ _ _ _ _)) fun c h => gL h) (by kernel_rfl)
theorem of_u68 (k : Nat) (core_ : Int) (length_ : Int) (caliper_ : Int) (r : R_u68) (h : f_u68 k core_ length_ caliper_ = some r) : C_u68 core_ length_ caliper_ r := by
  refine CC.of (fn := Tryz.f28) (by kernel_rfl) (by kernel_rfl) (by kernel_rfl) (by kernel_rfl) ?_
  unfold f_u68 at h
  exact go (mkK [ke_u69 k]) [] cs_u68 [.autoB [6, 7] true []] (gT h (fun c h => gL h) fun c h => gC h 4 ((ev_u68 k core_ length_ caliper_ k) _ _ _ _ _)) (by kernel_rfl)
theorem cc_u68 {k : Nat} {core_ : Int} {length_ : Int} {caliper_ : Int} (h : (f_u68 k core_ length_ caliper_).isSome = true) : C_u68 core_ length_ caliper_ (v_u68 k core_ length_ caliper_) := ccG (Φ := C_u68 core_ length_ caliper_) h (of_u68 k core_ length_ caliper_)

end
end Go.AM
