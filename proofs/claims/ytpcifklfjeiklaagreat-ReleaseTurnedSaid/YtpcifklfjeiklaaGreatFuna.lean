/- Contracts of the functions that the law reaches, and the plain law. -/
import Derived.Test.YtpcifklfjeiklaaGreatLibb
import Derived.Test.YtpcifklfjeiklaaGreatProg
import Derived.Laws.RangeAny
import Derived.Lib.IndexAny
import Derived.Shelf.Strings.IndexAnyAll
import Derived.Shelf.Small.Utf8
import Derived.Shelf.SlicesE.Clone
import Derived.Shelf.SlSortCmp.WholeK
import Derived.Shelf.SlSortCmp.NoneTotal
import Derived.Shelf.Sort.Plain
import Derived.Shelf.Slices.In.SortNone
import Derived.Shelf.Spec.SlicesGrow
import Derived.Shelf.SlGeneric
import Derived.Shelf.Small.Bits
import Derived.Ground.NamesProg
import Derived.Ground.Names2Prog
import Derived.Ground.Names8Prog
import Derived.Ground.SlgnProg
import Derived.Ground.SlsfProg
set_option linter.unusedVariables false
set_option linter.unusedSimpArgs false
set_option linter.unusedSectionVars false
namespace Go.AM
open Go

theorem take_snoc {α : Type} (l : List α) (i : Nat) (d : α) (h : i < l.length) : l.take (i + 1) = l.take i ++ [l.getD i d] := by
  rw [List.take_add_one]; simp [h]

/-! ### sets of integers as lists of spans -/
abbrev Sp := Int × Int

/-- x is in one of the spans -/
def has : List Sp → Int → Prop
  | [], _ => False
  | s :: t, x => (s.1 ≤ x ∧ x < s.2) ∨ has t x

theorem has_append (a b : List Sp) (x : Int) : has (a ++ b) x ↔ has a x ∨ has b x := by
  induction a with
  | nil => simp [has]
  | cons s t ih => simp only [List.cons_append, has, ih]; exact or_assoc.symm

theorem has_iff (l : List Sp) (x : Int) : has l x ↔ ∃ s ∈ l, s.1 ≤ x ∧ x < s.2 := by
  induction l with
  | nil => simp [has]
  | cons s t ih => simp [has, ih]

theorem has_perm {a b : List Sp} (h : a.Perm b) (x : Int) : has a x ↔ has b x := by
  rw [has_iff, has_iff]
  exact ⟨fun ⟨s, hs, h2⟩ => ⟨s, h.mem_iff.1 hs, h2⟩, fun ⟨s, hs, h2⟩ => ⟨s, h.mem_iff.2 hs, h2⟩⟩

/-- spans that have integers, in order, apart, all behind b -/
def Nr : Int → List Sp → Prop
  | _, [] => True
  | b, s :: t => b < s.1 ∧ s.1 < s.2 ∧ Nr s.2 t

theorem Nr.weaken {a b : Int} (h : a ≤ b) : ∀ {l : List Sp}, Nr b l → Nr a l
  | [], _ => trivial
  | _ :: _, ⟨h1, h2, h3⟩ => ⟨by omega, h2, h3⟩

theorem Nr.low : ∀ {b : Int} {l : List Sp}, Nr b l → ∀ x, has l x → b < x
  | _, [], _, x, hx => hx.elim
  | b, s :: t, ⟨h1, h2, h3⟩, x, hx => by
    rcases hx with ⟨h, _⟩ | hx
    · omega
    · have := Nr.low h3 x hx; omega

theorem Nr.uniq : ∀ {b : Int} {l m : List Sp}, Nr b l → Nr b m → (∀ x, has l x ↔ has m x) → l = m
  | _, [], [], _, _, _ => rfl
  | b, [], s :: t, _, ⟨h1, h2, _⟩, h => ((h s.1).2 (.inl ⟨by omega, h2⟩)).elim
  | b, s :: t, [], ⟨h1, h2, _⟩, _, h => ((h s.1).1 (.inl ⟨by omega, h2⟩)).elim
  | b, s :: t, u :: v, ⟨h1, h2, h3⟩, ⟨k1, k2, k3⟩, h => by
    have e1 : s.1 = u.1 := by
      have a1 := (h s.1).1 (.inl ⟨by omega, h2⟩)
      have a2 := (h u.1).2 (.inl ⟨by omega, k2⟩)
      rcases a1 with a1 | a1
      · rcases a2 with a2 | a2
        · omega
        · have := Nr.low h3 _ a2; omega
      · have := Nr.low k3 _ a1
        rcases a2 with a2 | a2
        · omega
        · have := Nr.low h3 _ a2; omega
    have e2 : s.2 = u.2 := by
      rcases Int.lt_trichotomy s.2 u.2 with hlt | heq | hgt
      · have a1 := (h s.2).2 (.inl ⟨by omega, hlt⟩)
        rcases a1 with a1 | a1
        · omega
        · have := Nr.low h3 _ a1; omega
      · exact heq
      · have a1 := (h u.2).1 (.inl ⟨by omega, hgt⟩)
        rcases a1 with a1 | a1
        · omega
        · have := Nr.low k3 _ a1; omega
    have e3 : s = u := Prod.ext e1 e2
    subst e3
    congr 1
    refine Nr.uniq h3 k3 fun x => ?_
    constructor
    · intro hx
      have := Nr.low h3 _ hx
      rcases (h x).1 (.inr hx) with a | a
      · omega
      · exact a
    · intro hx
      have := Nr.low k3 _ hx
      rcases (h x).2 (.inr hx) with a | a
      · omega
      · exact a

/-- the total of a list of spans -/
def tot : List Sp → Int
  | [] => 0
  | s :: t => (s.2 - s.1) + tot t

/-- joining spans that come in order of their beginnings -/
def jn : Sp → List Sp → List Sp
  | c, [] => [c]
  | c, s :: t => if s.1 ≥ s.2 then jn c t else if s.1 ≤ c.2 then jn (c.1, if s.2 > c.2 then s.2 else c.2) t else c :: jn s t
def jn0 : List Sp → List Sp
  | [] => []
  | s :: t => if s.1 ≥ s.2 then jn0 t else jn s t

def Asc : Int → List Sp → Prop
  | _, [] => True
  | b, s :: t => b ≤ s.1 ∧ Asc s.1 t
theorem Asc.weaken {a b : Int} (h : a ≤ b) : ∀ {l : List Sp}, Asc b l → Asc a l
  | [], _ => trivial
  | _ :: _, ⟨h1, h3⟩ => ⟨by omega, h3⟩

theorem jn_nr : ∀ (l : List Sp) (c : Sp) (b : Int), b < c.1 → c.1 < c.2 → Asc c.1 l → Nr b (jn c l)
  | [], c, b, h1, h2, _ => ⟨h1, h2, trivial⟩
  | s :: t, c, b, h1, h2, ⟨h3, h4⟩ => by
    unfold jn
    by_cases q : s.1 ≥ s.2
    · rw [if_pos q]; exact jn_nr t c b h1 h2 (h4.weaken h3)
    · rw [if_neg q]
      by_cases q2 : s.1 ≤ c.2
      · rw [if_pos q2]
        refine jn_nr t _ b h1 ?_ (h4.weaken h3)
        show c.1 < if s.2 > c.2 then s.2 else c.2
        split <;> omega
      · rw [if_neg q2]
        exact ⟨h1, h2, jn_nr t s c.2 (by omega) (by omega) h4⟩
theorem jn_has : ∀ (l : List Sp) (c : Sp) (x : Int), c.1 < c.2 → Asc c.1 l → (has (jn c l) x ↔ (c.1 ≤ x ∧ x < c.2) ∨ has l x)
  | [], c, x, _, _ => by simp [jn, has]
  | s :: t, c, x, h2, ⟨h3, h4⟩ => by
    unfold jn
    by_cases q : s.1 ≥ s.2
    · rw [if_pos q, jn_has t c x h2 (h4.weaken h3)]
      simp only [has]
      constructor
      · rintro (h | h)
        · exact .inl h
        · exact .inr (.inr h)
      · rintro (h | h | h)
        · exact .inl h
        · omega
        · exact .inr h
    · rw [if_neg q]
      by_cases q2 : s.1 ≤ c.2
      · rw [if_pos q2, jn_has t (c.1, if s.2 > c.2 then s.2 else c.2) x (by show c.1 < if s.2 > c.2 then s.2 else c.2; split <;> omega) (h4.weaken h3)]
        simp only [has]
        constructor
        · rintro (h | h)
          · by_cases q3 : x < c.2
            · exact .inl ⟨h.1, q3⟩
            · refine .inr (.inl ⟨by omega, ?_⟩)
              have := h.2
              split at this <;> omega
          · exact .inr (.inr h)
        · rintro (h | h | h)
          · exact .inl ⟨h.1, by split <;> omega⟩
          · exact .inl ⟨by omega, by split <;> omega⟩
          · exact .inr h
      · rw [if_neg q2]
        simp only [has, jn_has t s x (by omega) h4]
theorem jn0_nr : ∀ (l : List Sp) (b : Int), Asc (b + 1) l → Nr b (jn0 l)
  | [], b, _ => trivial
  | s :: t, b, ⟨h3, h4⟩ => by
    unfold jn0
    by_cases q : s.1 ≥ s.2
    · rw [if_pos q]; exact jn0_nr t b (h4.weaken h3)
    · rw [if_neg q]; exact jn_nr t s b (by omega) (by omega) h4
theorem jn0_has : ∀ (l : List Sp) (b x : Int), Asc b l → (has (jn0 l) x ↔ has l x)
  | [], b, x, _ => Iff.rfl
  | s :: t, b, x, ⟨h3, h4⟩ => by
    unfold jn0
    by_cases q : s.1 ≥ s.2
    · rw [if_pos q, jn0_has t _ x h4]
      simp only [has]
      exact ⟨.inr, fun h => h.elim (fun h => by omega) id⟩
    · rw [if_neg q, jn_has t s x (by omega) h4]; rfl

theorem jn_len : ∀ (l : List Sp) (c : Sp), (jn c l).length ≤ l.length + 1
  | [], c => by simp [jn]
  | s :: t, c => by
    unfold jn
    split
    · have := jn_len t c; simp; omega
    · split
      · have := jn_len t (c.1, if s.2 > c.2 then s.2 else c.2); simp at this ⊢; omega
      · have := jn_len t s; simp; omega
theorem jn0_len : ∀ (l : List Sp), (jn0 l).length ≤ l.length
  | [] => Nat.le_refl _
  | s :: t => by
    unfold jn0
    split
    · have := jn0_len t; simp; omega
    · have := jn_len t s; simpa using this

/-- spans within bounds -/
def In (a b : Int) : List Sp → Prop
  | [] => True
  | s :: t => (a ≤ s.1 ∧ s.1 ≤ s.2 ∧ s.2 ≤ b) ∧ In a b t
theorem In.mem {a b : Int} : ∀ {l : List Sp}, In a b l → ∀ s ∈ l, a ≤ s.1 ∧ s.1 ≤ s.2 ∧ s.2 ≤ b
  | [], _, s, hs => by simp at hs
  | u :: t, ⟨h1, h2⟩, s, hs => by
    rcases List.mem_cons.1 hs with rfl | hs
    · exact h1
    · exact In.mem h2 s hs
theorem In.of {a b : Int} : ∀ {l : List Sp}, (∀ s ∈ l, a ≤ s.1 ∧ s.1 ≤ s.2 ∧ s.2 ≤ b) → In a b l
  | [], _ => trivial
  | u :: t, h => ⟨h u (by simp), In.of fun s hs => h s (by simp [hs])⟩
theorem jn_in {a b : Int} : ∀ (l : List Sp) (c : Sp), In a b l → (a ≤ c.1 ∧ c.1 ≤ c.2 ∧ c.2 ≤ b) → In a b (jn c l)
  | [], c, _, hc => ⟨hc, trivial⟩
  | s :: t, c, ⟨h1, h2⟩, hc => by
    unfold jn
    split
    · exact jn_in t c h2 hc
    · split
      · refine jn_in t _ h2 ⟨hc.1, ?_, ?_⟩
        · show c.1 ≤ if s.2 > c.2 then s.2 else c.2
          split <;> omega
        · show (if s.2 > c.2 then s.2 else c.2) ≤ b
          split <;> omega
      · exact ⟨hc, jn_in t s h2 h1⟩
theorem jn0_in {a b : Int} : ∀ (l : List Sp), In a b l → In a b (jn0 l)
  | [], h => h
  | s :: t, ⟨h1, h2⟩ => by
    unfold jn0
    split
    · exact jn0_in t h2
    · exact jn_in t s h2 h1
end Go.AM
namespace Go.AM
open Go

/-! ### maps of integers as lists of runs -/
abbrev Rn := Int × Int × Bool   -- At, Len, Back

def good (r : Rn) : Prop := 1 ≤ r.2.1 ∧ r.2.1 ≤ 17179869184 ∧ 0 ≤ r.1 ∧ r.1 < 17179869184 ∧ (r.2.2 = true → 0 ≤ r.1 - r.2.1 + 1) ∧ (r.2.2 = false → r.1 + r.2.1 ≤ 17179869184)
instance (r : Rn) : Decidable (good r) := by unfold good; infer_instance

def lenS : List Rn → Int
  | [] => 0
  | r :: t => r.2.1 + lenS t

def goods : List Rn → Prop
  | [] => True
  | r :: t => good r ∧ goods t
instance : (l : List Rn) → Decidable (goods l)
  | [] => .isTrue trivial
  | r :: t => @instDecidableAnd _ _ _ (instDecidableGoods t)

/-- the error of a map -/
def chk (m : List Rn) : Int := if m.length > 256 then 8 else if goods m then (if lenS m > 17179869184 then 21 else 0) else 1

theorem lenS_append (a b : List Rn) : lenS (a ++ b) = lenS a + lenS b := by
  induction a with
  | nil => simp [lenS]
  | cons r t ih => simp only [List.cons_append, lenS, ih]; omega
theorem goods_append (a b : List Rn) : goods (a ++ b) ↔ goods a ∧ goods b := by
  induction a with
  | nil => simp [goods]
  | cons r t ih => simp only [List.cons_append, goods, ih]; exact and_assoc.symm
theorem goods.mem : ∀ {l : List Rn}, goods l → ∀ r ∈ l, good r
  | [], _, r, h => by simp at h
  | u :: t, ⟨h1, h2⟩, r, hr => by
    rcases List.mem_cons.1 hr with rfl | hr
    · exact h1
    · exact goods.mem h2 r hr
theorem goods.of : ∀ {l : List Rn}, (∀ r ∈ l, good r) → goods l
  | [], _ => trivial
  | u :: t, h => ⟨h u (by simp), goods.of fun r hr => h r (by simp [hr])⟩
theorem lenS_nonneg : ∀ {l : List Rn}, goods l → (l.length : Int) ≤ lenS l
  | [], _ => by simp [lenS]
  | r :: t, ⟨h1, h2⟩ => by
    have := lenS_nonneg h2
    have := h1.1
    simp only [lenS, List.length_cons]; omega
structure Chk (m : List Rn) : Prop where
  len : m.length ≤ 256
  goods : goods m
  tot : lenS m ≤ 17179869184
theorem chk_zero {m : List Rn} : chk m = 0 ↔ Chk m := by
  unfold chk
  constructor
  · intro h
    by_cases h1 : m.length > 256
    · rw [if_pos h1] at h; omega
    · rw [if_neg h1] at h
      by_cases h2 : goods m
      · rw [if_pos h2] at h
        by_cases h3 : lenS m > 17179869184
        · rw [if_pos h3] at h; omega
        · exact ⟨by omega, h2, by omega⟩
      · rw [if_neg h2] at h; omega
  · rintro ⟨h1, h2, h3⟩
    rw [if_neg (by omega), if_pos h2, if_neg (by omega)]

/-- the image of an integer of a run -/
def img (r : Rn) (x : Int) : Int := if r.2.2 = true then r.1 - x else r.1 + x

/-- the image of an integer of a map -/
def imgAt : List Rn → Int → Int
  | [], _ => 0
  | r :: t, x => if x < r.2.1 then img r x else imgAt t (x - r.2.1)

def lo (r : Rn) : Int := if r.2.2 = true then r.1 - r.2.1 + 1 else r.1
def hi (r : Rn) : Int := if r.2.2 = true then r.1 else r.1 + r.2.1 - 1
/-- the span of the images of a run -/
def spn (r : Rn) : Sp := (lo r, hi r + 1)

theorem good.lohi {r : Rn} (h : good r) : 0 ≤ lo r ∧ lo r ≤ hi r ∧ hi r < 17179869184 ∧ hi r - lo r + 1 = r.2.1 := by
  obtain ⟨h1, h2, h3, h4, h5, h6⟩ := h
  unfold lo hi
  cases hb : r.2.2
  · have := h6 hb; simp only [Bool.false_eq_true, if_false]; omega
  · have := h5 hb; simp only [if_true]; omega
theorem img_mem {r : Rn} {x : Int} (h0 : 0 ≤ x) (h1 : x < r.2.1) : lo r ≤ img r x ∧ img r x ≤ hi r := by
  unfold lo hi img
  cases r.2.2 <;> simp only [Bool.false_eq_true, if_false, if_true] <;> omega

/-- n integers of a run, from the integer x on -/
def prt (r : Rn) (x n : Int) : Rn := (img r x, n, r.2.2 && decide (n > 1))

def stp (c r : Rn) : Int := r.1 - img c (c.2.1 - 1)
/-- does a run begin anew behind another one? -/
def apart (c r : Rn) : Bool := (stp c r != 1 && stp c r != -1) || (decide (c.2.1 > 1) && !((stp c r == -1) == c.2.2))
/-- a normal form with a further run -/
def addS (b : List Rn) (r : Rn) : List Rn :=
  if r.2.1 < 1 then b else match b.getLast? with
    | none => b ++ [prt r 0 r.2.1]
    | some c => bif apart c r then b ++ [prt r 0 r.2.1]
      else bif decide (r.2.1 > 1) && !(r.2.2 == (stp c r == -1)) then b.dropLast ++ [(c.1, c.2.1 + 1, stp c r == -1), prt r 1 (r.2.1 - 1)]
      else b.dropLast ++ [(c.1, c.2.1 + r.2.1, stp c r == -1)]

def adds (b : List Rn) (l : List Rn) : List Rn := l.foldl addS b

/-- the pieces of a part of a map -/
def pieces : List Rn → Int → Int → List Rn
  | [], _, _ => []
  | r :: t, a, b =>
    (if max a 0 < min b r.2.1 then [prt r (max a 0) (min b r.2.1 - max a 0)] else []) ++ pieces t (a - r.2.1) (b - r.2.1)

/-- a piece from its end -/
def rvs1 (p : Rn) : Rn := (img p (p.2.1 - 1), p.2.1, !p.2.2 && decide (p.2.1 > 1))

/-- the pieces of outer that an inner run comes to, in its order -/
def steps (outer : List Rn) (r : Rn) : List Rn :=
  if r.2.2 = true then ((pieces outer (r.1 - r.2.1 + 1) (r.1 + 1)).reverse).map rvs1 else pieces outer r.1 (r.1 + r.2.1)

/-- does a map come out of another one? -/
def fitsIn (n : Int) : List Rn → Prop
  | [] => True
  | r :: t => hi r < n ∧ fitsIn n t
instance (n : Int) : (l : List Rn) → Decidable (fitsIn n l)
  | [] => .isTrue trivial
  | r :: t => @instDecidableAnd _ _ _ (instDecidableFitsIn n t)

/-- the composition, in normal form, without its limit -/
def compS (inner outer : List Rn) : List Rn := inner.foldl (fun b r => adds b (steps outer r)) []

/-- the composition or its error -/
def comp (inner outer : List Rn) : List Rn × Int :=
  if chk inner ≠ 0 then ([], chk inner) else if chk outer ≠ 0 then ([], chk outer) else if ¬ fitsIn (lenS outer) inner then ([], 21)
  else if (compS inner outer).length > 256 then ([], 8) else (compS inner outer, 0)
end Go.AM
namespace Go.AM
open Go Go.Proofs
noncomputable section
abbrev I : RTy := .int .i64
abbrev t7 : RTy := (RTy.pair I (RTy.pair I (RTy.pair RTy.bool (RTy.int .u8))))
abbrev t8 : RTy := (RTy.pair I (RTy.pair I (RTy.pair RTy.bool (RTy.int .u8))))
abbrev t13 : RTy := (RTy.pair RTy.str (RTy.int .u64))
abbrev t14 : RTy := (RTy.pair RTy.str (RTy.int .u64))
abbrev T0 : RTy := (RTy.pair I (RTy.pair I RTy.bool))
abbrev T1 : RTy := (RTy.pair I (RTy.pair I (RTy.pair RTy.bool (RTy.list T0))))
abbrev T2 : RTy := (RTy.pair I (RTy.pair I T1))
abbrev T3 : RTy := (RTy.pair I (RTy.pair I (RTy.pair I (RTy.pair I I))))
abbrev T4 : RTy := (RTy.pair I (RTy.pair I (RTy.pair I I)))
abbrev T5 : RTy := (RTy.pair T4 (RTy.pair I I))
abbrev T6 : RTy := (RTy.pair RTy.str (RTy.pair I (RTy.pair I (RTy.pair I (RTy.pair I (RTy.pair I (RTy.pair (RTy.list I) I)))))))
abbrev t26 : RTy := (RTy.pair (RTy.list T2) (RTy.pair I (RTy.pair I (RTy.pair (RTy.list T3) (RTy.pair (RTy.list T5) (RTy.pair (RTy.list T6) I))))))
abbrev T7 : RTy := (RTy.pair (RTy.list T2) (RTy.pair I (RTy.pair I (RTy.pair (RTy.list T3) (RTy.pair (RTy.list T5) (RTy.pair (RTy.list T6) I))))))
abbrev t30 : RTy := (RTy.pair I (RTy.pair RTy.bool (RTy.pair I (RTy.pair I (RTy.pair I I)))))
abbrev T8 : RTy := (RTy.pair I (RTy.pair RTy.bool (RTy.pair I (RTy.pair I (RTy.pair I I)))))
abbrev t35 : RTy := (RTy.pair I I)
abbrev T9 : RTy := (RTy.pair I I)
abbrev t37 : RTy := (RTy.pair (RTy.list T2) (RTy.pair T9 (RTy.pair (RTy.list T3) (RTy.pair (RTy.list T5) (RTy.pair (RTy.list T6) I)))))
abbrev T10 : RTy := (RTy.pair (RTy.list T2) (RTy.pair T9 (RTy.pair (RTy.list T3) (RTy.pair (RTy.list T5) (RTy.pair (RTy.list T6) I)))))
abbrev T11 : RTy := (RTy.pair I I)
abbrev t42 : RTy := (RTy.pair (RTy.list T2) (RTy.pair T11 (RTy.pair (RTy.list T3) (RTy.pair (RTy.list T5) (RTy.pair (RTy.list T6) I)))))
abbrev T12 : RTy := (RTy.pair (RTy.list T2) (RTy.pair T11 (RTy.pair (RTy.list T3) (RTy.pair (RTy.list T5) (RTy.pair (RTy.list T6) I)))))
abbrev t49 : RTy := (RTy.pair I (RTy.pair I (RTy.pair RTy.bool (RTy.list T0))))
abbrev t51 : RTy := (RTy.pair I (RTy.pair I T1))
abbrev t53 : RTy := (RTy.pair I (RTy.pair I RTy.bool))
abbrev t58 : RTy := (RTy.pair I (RTy.pair I (RTy.pair I (RTy.pair I (RTy.pair I (RTy.pair I (RTy.pair I (RTy.pair I (RTy.pair I (RTy.pair I (RTy.pair I I)))))))))))
abbrev T13 : RTy := (RTy.pair I (RTy.pair I (RTy.pair I (RTy.pair I (RTy.pair I (RTy.pair I (RTy.pair I (RTy.pair I (RTy.pair I (RTy.pair I (RTy.pair I I)))))))))))
abbrev t61 : RTy := (RTy.pair I (RTy.pair I I))
abbrev T14 : RTy := (RTy.pair I (RTy.pair I I))
abbrev T15 : RTy := (RTy.pair I I)
abbrev t77 : RTy := (RTy.pair RTy.str (RTy.pair I (RTy.pair I (RTy.pair I (RTy.pair I (RTy.pair I (RTy.pair (RTy.list I) I)))))))
abbrev t81 : RTy := (RTy.pair I (RTy.pair I (RTy.pair I (RTy.pair I I))))
abbrev t85 : RTy := (RTy.pair I I)
abbrev t95 : RTy := (RTy.pair T8 T13)
abbrev T16 : RTy := (RTy.pair T8 T13)
abbrev t113 : RTy := (RTy.pair I (RTy.pair I (RTy.pair I I)))
abbrev t115 : RTy := (RTy.pair T4 (RTy.pair I I))
abbrev t146 : RTy := (RTy.list T0)
abbrev T17 : RTy := (RTy.list T0)
abbrev t206 : RTy := RTy.unit
abbrev t207 : RTy := RTy.unit
instance : GT Tryz.prog := ⟨fun _ => True, fun _ _ _ h => h⟩
def Rt : Tab := lookT [(1, RTy.fn), (2, I), (3, I), (4, RTy.bool), (5, (RTy.int .u8)), (6, (RTy.int .u8)), (7, t7), (8, t8), (9, RTy.str), (10, RTy.str), (11, RTy.str), (12, (RTy.int .u64)), (13, t13), (14, t14), (21, (RTy.int .i32)), (22, (RTy.list T2)), (23, (RTy.list T3)), (24, (RTy.list T5)), (25, (RTy.list T6)), (26, t26), (27, T7), (28, RTy.fn), (29, RTy.fn), (30, t30), (31, T8), (32, I), (34, RTy.fn), (35, t35), (36, T9), (37, t37), (38, T10), (39, RTy.fn), (40, RTy.fn), (41, T11), (42, t42), (43, T12), (44, RTy.fn), (45, RTy.fn), (47, RTy.fn), (48, (RTy.list T0)), (49, t49), (50, T1), (51, t51), (52, T2), (53, t53), (54, T0), (55, (RTy.list I)), (57, RTy.fn), (58, t58), (59, T13), (60, RTy.fn), (61, t61), (62, T14), (63, (RTy.list T14)), (64, RTy.fn), (65, RTy.fn), (67, RTy.fn), (68, RTy.fn), (69, (RTy.list T15)), (71, RTy.fn), (73, RTy.fn), (75, RTy.fn), (76, RTy.fn), (77, t77), (78, T6), (79, RTy.fn), (80, RTy.fn), (81, t81), (82, T3), (84, RTy.fn), (85, t85), (86, T15), (87, RTy.fn), (88, RTy.fn), (91, RTy.fn), (93, RTy.fn), (94, RTy.fn), (95, t95), (96, T16), (97, (RTy.list RTy.fn)), (98, RTy.fn), (100, RTy.fn), (101, RTy.fn), (102, RTy.fn), (103, RTy.fn), (104, RTy.fn), (106, RTy.fn), (107, RTy.fn), (108, RTy.fn), (109, RTy.fn), (110, RTy.fn), (112, RTy.fn), (113, t113), (114, T4), (115, t115), (116, T5), (117, RTy.fn), (118, RTy.fn), (120, RTy.fn), (121, RTy.fn), (122, RTy.fn), (123, RTy.fn), (124, RTy.fn), (128, RTy.fn), (129, RTy.fn), (130, (RTy.int .u64)), (131, RTy.fn), (132, RTy.fn), (133, RTy.fn), (134, RTy.fn), (135, RTy.fn), (136, RTy.fn), (137, RTy.fn), (138, RTy.fn), (139, RTy.fn), (140, RTy.fn), (141, RTy.fn), (143, RTy.fn), (144, RTy.fn), (145, RTy.fn), (146, t146), (147, T17), (148, RTy.fn), (149, RTy.fn), (150, RTy.fn), (151, RTy.fn), (152, RTy.fn), (153, RTy.fn), (154, RTy.fn), (155, RTy.fn), (156, RTy.fn), (157, RTy.fn), (158, RTy.fn), (159, RTy.fn), (160, RTy.fn), (161, RTy.fn), (162, RTy.fn), (164, RTy.fn), (165, RTy.fn), (166, (RTy.list (RTy.list T15))), (167, RTy.fn), (168, RTy.fn), (169, RTy.fn), (170, RTy.fn), (171, RTy.fn), (172, RTy.fn), (173, RTy.fn), (174, RTy.fn), (175, I), (177, RTy.fn), (178, RTy.fn), (179, RTy.fn), (180, RTy.fn), (181, RTy.fn), (182, (RTy.int .u32)), (183, RTy.fn), (184, (RTy.int .u64)), (185, RTy.fn), (186, RTy.fn), (187, RTy.fn), (188, RTy.fn), (189, RTy.fn), (190, RTy.fn), (191, (RTy.int .u64)), (192, RTy.fn), (193, RTy.fn), (194, RTy.fn), (196, RTy.fn), (197, RTy.fn), (198, RTy.fn), (200, RTy.fn), (201, RTy.fn), (202, RTy.fn), (205, RTy.unit), (206, t206), (207, t207), (208, RTy.fn), (209, (RTy.int .u8)), (210, (RTy.int .u8)), (211, RTy.fn), (213, (RTy.int .i32)), (214, (RTy.int .i32))]
theorem hm : Tryz.prog.follows .mixedOrders = true := by kernel_rfl
theorem go (K : Calld) (l : List Nat) (C : List (Nat × List Cmd)) (E : List Cmd) {fn : Wy} {m : Nat} {todo : List Item} {st : St} {res : AV} {bout : List (Nat × Blk)} {T : Tree} (h : T.gives Tryz.prog fn m res bout) (e : tree Tryz.prog Rt K fn.rd m l fn.fn.results.toList C E 1000 todo st = T) : Ev Tryz.prog fn m todo st res bout := Ev.tree hm (R := Rt) (K := K) e h
abbrev R_u18 : Type := Int
def res_u18 (r : R_u18) : AV := .r (.v (.int .i64 r))
def bo_u18 (m_ : List (T0).T) (r : R_u18) : List (Nat × Blk) := []
def args_u18 (m_ : List (T0).T) : List AV := [.r (.ro T0 m_)]
def bin_u18 (m_ : List (T0).T) : List Blk := []
abbrev C_u18 (m_ : List (T0).T) (r : R_u18) : Prop := CC Tryz.prog 43 (args_u18 m_) (bin_u18 m_) (res_u18 r) (bo_u18 m_ r)
def st_u18_5 (y0 : Int) (y1 : List (T0).T) (y2 : Int) (y3 : Int) : St := ⟨mkS 64 [(3, .r (.v (.int .i64 y0))), (9, .r (.ro T0 y1)), (10, .r (.v (.int .i64 y2))), (11, .r (.v (.int .i64 y3)))], []⟩
def f_u18_5 (k : Nat) : Nat → Int → List (T0).T → Int → Int → Option R_u18
  | 0, _, _, _, _ => none
  | j + 1, y0, y1, y2, y3 =>
  bif (decide (y3 < y2)) then
  if (0 ≤ y3) ∧ (y3 < (↑y1.length : Int)) then
  bif (decide ((y1.getD y3.toNat T0.dflt).2.1 < (1 : Int)) || decide ((y1.getD y3.toNat T0.dflt).2.1 > (17179869184 : Int)) || decide ((y1.getD y3.toNat T0.dflt).1 < (0 : Int)) || decide ((y1.getD y3.toNat T0.dflt).1 ≥ (17179869184 : Int))) then
  some 1
  else
  bif ((y1.getD y3.toNat T0.dflt).2.2 && decide (IntKind.i64.wrap (IntKind.i64.wrap ((y1.getD y3.toNat T0.dflt).1 - (y1.getD y3.toNat T0.dflt).2.1) + (1 : Int)) < (0 : Int)) || (! (y1.getD y3.toNat T0.dflt).2.2) && decide (IntKind.i64.wrap ((y1.getD y3.toNat T0.dflt).1 + (y1.getD y3.toNat T0.dflt).2.1) > (17179869184 : Int))) then
  some 1
  else
  f_u18_5 k j ((IntKind.i64.wrap (y0 + (y1.getD y3.toNat T0.dflt).2.1))) y1 y2 ((IntKind.i64.wrap (y3 + 1)))
  else none
  else
  bif (decide (y0 > (17179869184 : Int))) then
  some 21
  else
  some 0
def f_u18 (k : Nat) (m_ : List (T0).T) : Option R_u18 :=
  bif (decide ((↑m_.length : Int) > (256 : Int))) then
  some 8
  else
  f_u18_5 k k 0 m_ ((↑m_.length : Int)) 0
def v_u18 (k : Nat) (m_ : List (T0).T) : R_u18 := (f_u18 k m_).getD 0
def ke_u18 (k : Nat) : Ke := (43, fun xs => match xs with
  | [_] => some [false]
  | _ => none, fun xs bs => match xs, bs with
  | [.r (.ro tm__ qm_)], [] => (castL tm__ T0 qm_).bind fun m_ => some (.one (res_u18 (v_u18 k m_), bo_u18 m_ (v_u18 k m_)))
  | _, _ => none)
def cs_u18 : List (Nat × List Cmd) := [(5, [.autoB [3, 9, 10, 11] false []])]
abbrev E_u18 (m_ : List (T0).T) (todo : List Item) (st : St) (o : Option R_u18) : Prop := ∀ r, o = some r → Ev Tryz.prog Tryz.f43 0 todo st (res_u18 r) (bo_u18 m_ r)
theorem ev_u18 (k : Nat) (m_ : List (T0).T) : ∀ j, (∀ (y0 : Int) (y1 : List (T0).T) (y2 : Int) (y3 : Int), E_u18 m_ (placeAt Tryz.f43 5) (st_u18_5 y0 y1 y2 y3) (f_u18_5 k j y0 y1 y2 y3))
  | 0 => fun _ _ _ _ _ h => (nomatch h)
  | j + 1 => by
    have ih := @ev_u18 k m_ j
    · intro y0 y1 y2 y3 r h
      rw [f_u18_5] at h
      exact go (mkK []) [] cs_u18 [.autoB [2] true []] (gT h (fun c h => gN2 h fun h => gT h (fun c h => gL h) fun c h => gT h (fun c h => gL h) fun c h => gC h 5 (ih _ _ _ _ _)) fun c h => gT h (fun c h => gL h) fun c h => gL h) (by kernel_rfl)
theorem of_u18 (k : Nat) (m_ : List (T0).T) (r : R_u18) (h : f_u18 k m_ = some r) : C_u18 m_ r := by
  refine CC.of (fn := Tryz.f43) (by kernel_rfl) (by kernel_rfl) (by kernel_rfl) (by kernel_rfl) ?_
  unfold f_u18 at h
  exact go (mkK []) [] cs_u18 [.autoB [2] true []] (gT h (fun c h => gL h) fun c h => gC h 5 ((ev_u18 k m_ k) _ _ _ _ _)) (by kernel_rfl)
theorem cc_u18 {k : Nat} {m_ : List (T0).T} (h : (f_u18 k m_).isSome = true) : C_u18 m_ (v_u18 k m_) := ccG (Φ := C_u18 m_) h (of_u18 k m_)
abbrev R_u31 : Type := Int
def res_u31 (r : R_u31) : AV := .r (.v (.int .i64 r))
def bo_u31 (m_ : List (T0).T) (r : R_u31) : List (Nat × Blk) := []
def args_u31 (m_ : List (T0).T) : List AV := [.r (.ro T0 m_)]
def bin_u31 (m_ : List (T0).T) : List Blk := []
abbrev C_u31 (m_ : List (T0).T) (r : R_u31) : Prop := CC Tryz.prog 47 (args_u31 m_) (bin_u31 m_) (res_u31 r) (bo_u31 m_ r)
def st_u31_3 (y0 : Int) (y1 : List (T0).T) (y2 : Int) (y3 : Int) : St := ⟨mkS 18 [(3, .r (.v (.int .i64 y0))), (6, .r (.ro T0 y1)), (7, .r (.v (.int .i64 y2))), (8, .r (.v (.int .i64 y3)))], []⟩
def f_u31_3 (k : Nat) : Nat → Int → List (T0).T → Int → Int → Option R_u31
  | 0, _, _, _, _ => none
  | j + 1, y0, y1, y2, y3 =>
  bif (decide (y3 < y2)) then
  if (0 ≤ y3) ∧ (y3 < (↑y1.length : Int)) then
  f_u31_3 k j ((IntKind.i64.wrap (y0 + (y1.getD y3.toNat T0.dflt).2.1))) y1 y2 ((IntKind.i64.wrap (y3 + 1)))
  else none
  else
  some y0
def f_u31 (k : Nat) (m_ : List (T0).T) : Option R_u31 :=
  f_u31_3 k k 0 m_ ((↑m_.length : Int)) 0
def v_u31 (k : Nat) (m_ : List (T0).T) : R_u31 := (f_u31 k m_).getD 0
def ke_u31 (k : Nat) : Ke := (47, fun xs => match xs with
  | [_] => some [false]
  | _ => none, fun xs bs => match xs, bs with
  | [.r (.ro tm__ qm_)], [] => (castL tm__ T0 qm_).bind fun m_ => some (.one (res_u31 (v_u31 k m_), bo_u31 m_ (v_u31 k m_)))
  | _, _ => none)
def cs_u31 : List (Nat × List Cmd) := [(3, [.autoB [3, 6, 7, 8] false []])]
abbrev E_u31 (m_ : List (T0).T) (todo : List Item) (st : St) (o : Option R_u31) : Prop := ∀ r, o = some r → Ev Tryz.prog Tryz.f47 0 todo st (res_u31 r) (bo_u31 m_ r)
theorem ev_u31 (k : Nat) (m_ : List (T0).T) : ∀ j, (∀ (y0 : Int) (y1 : List (T0).T) (y2 : Int) (y3 : Int), E_u31 m_ (placeAt Tryz.f47 3) (st_u31_3 y0 y1 y2 y3) (f_u31_3 k j y0 y1 y2 y3))
  | 0 => fun _ _ _ _ _ h => (nomatch h)
  | j + 1 => by
    have ih := @ev_u31 k m_ j
    · intro y0 y1 y2 y3 r h
      rw [f_u31_3] at h
      exact go (mkK []) [] cs_u31 [.autoB [2] true []] (gT h (fun c h => gN2 h fun h => gC h 3 (ih _ _ _ _ _)) fun c h => gL h) (by kernel_rfl)
theorem of_u31 (k : Nat) (m_ : List (T0).T) (r : R_u31) (h : f_u31 k m_ = some r) : C_u31 m_ r := by
  refine CC.of (fn := Tryz.f47) (by kernel_rfl) (by kernel_rfl) (by kernel_rfl) (by kernel_rfl) ?_
  unfold f_u31 at h
  exact go (mkK []) [] cs_u31 [.autoB [2] true []] (gC h 3 ((ev_u31 k m_ k) _ _ _ _ _)) (by kernel_rfl)
theorem cc_u31 {k : Nat} {m_ : List (T0).T} (h : (f_u31 k m_).isSome = true) : C_u31 m_ (v_u31 k m_) := ccG (Φ := C_u31 m_) h (of_u31 k m_)
abbrev R_u29 : Type := Int
def res_u29 (r : R_u29) : AV := .r (.v (.int .i64 r))
def bo_u29 (r_ : T0.T) (x_ : Int) (r : R_u29) : List (Nat × Blk) := []
def args_u29 (r_ : T0.T) (x_ : Int) : List AV := [.agg (rvs (enc T0 r_)), .r (.v (.int .i64 x_))]
def bin_u29 (r_ : T0.T) (x_ : Int) : List Blk := []
abbrev C_u29 (r_ : T0.T) (x_ : Int) (r : R_u29) : Prop := CC Tryz.prog 66 (args_u29 r_ x_) (bin_u29 r_ x_) (res_u29 r) (bo_u29 r_ x_ r)
def f_u29 (k : Nat) (r_ : T0.T) (x_ : Int) : Option R_u29 :=
  bif r_.2.2 then
  some (IntKind.i64.wrap (r_.1 - x_))
  else
  some (IntKind.i64.wrap (r_.1 + x_))
def v_u29 (k : Nat) (r_ : T0.T) (x_ : Int) : R_u29 := (f_u29 k r_ x_).getD 0
def ke_u29 (k : Nat) : Ke := (66, fun xs => match xs with
  | [_, _] => some [false, false]
  | _ => none, fun xs bs => match xs, bs with
  | [.agg qr_, .r (.v (.int .i64 x_))], [] => (decS [] T0 qr_).bind fun r_ => some (.one (res_u29 (v_u29 k r_ x_), bo_u29 r_ x_ (v_u29 k r_ x_)))
  | _, _ => none)
theorem of_u29 (k : Nat) (r_ : T0.T) (x_ : Int) (r : R_u29) (h : f_u29 k r_ x_ = some r) : C_u29 r_ x_ r := by
  refine CC.of (fn := Tryz.f66) (by kernel_rfl) (by kernel_rfl) (by kernel_rfl) (by kernel_rfl) ?_
  unfold f_u29 at h
  exact go (mkK []) [] [] [.autoB [4] true []] (gT h (fun c h => gL h) fun c h => gL h) (by kernel_rfl)
theorem cc_u29 {k : Nat} {r_ : T0.T} {x_ : Int} (h : (f_u29 k r_ x_).isSome = true) : C_u29 r_ x_ (v_u29 k r_ x_) := ccG (Φ := C_u29 r_ x_) h (of_u29 k r_ x_)
abbrev R_u32 : Type := T0.T
def res_u32 (r : R_u32) : AV := .agg (rvs (enc T0 r))
def bo_u32 (r_ : T0.T) (x_ : Int) (n_ : Int) (r : R_u32) : List (Nat × Blk) := []
def args_u32 (r_ : T0.T) (x_ : Int) (n_ : Int) : List AV := [.agg (rvs (enc T0 r_)), .r (.v (.int .i64 x_)), .r (.v (.int .i64 n_))]
def bin_u32 (r_ : T0.T) (x_ : Int) (n_ : Int) : List Blk := []
abbrev C_u32 (r_ : T0.T) (x_ : Int) (n_ : Int) (r : R_u32) : Prop := CC Tryz.prog 104 (args_u32 r_ x_ n_) (bin_u32 r_ x_ n_) (res_u32 r) (bo_u32 r_ x_ n_ r)
def f_u32 (k : Nat) (r_ : T0.T) (x_ : Int) (n_ : Int) : Option R_u32 :=
  if ((f_u29 k r_ x_).isSome = true) then
  some ((v_u29 k r_ x_, (n_, r_.2.2 && decide (n_ > 1))))
  else none
def v_u32 (k : Nat) (r_ : T0.T) (x_ : Int) (n_ : Int) : R_u32 := (f_u32 k r_ x_ n_).getD (T0).dflt
def ke_u32 (k : Nat) : Ke := (104, fun xs => match xs with
  | [_, _, _] => some [false, false, false]
  | _ => none, fun xs bs => match xs, bs with
  | [.agg qr_, .r (.v (.int .i64 x_)), .r (.v (.int .i64 n_))], [] => (decS [] T0 qr_).bind fun r_ => some (.one (res_u32 (v_u32 k r_ x_ n_), bo_u32 r_ x_ n_ (v_u32 k r_ x_ n_)))
  | _, _ => none)
theorem of_u32 (k : Nat) (r_ : T0.T) (x_ : Int) (n_ : Int) (r : R_u32) (h : f_u32 k r_ x_ n_ = some r) : C_u32 r_ x_ n_ r := by
  refine CC.of (fn := Tryz.f104) (by kernel_rfl) (by kernel_rfl) (by kernel_rfl) (by kernel_rfl) ?_
  unfold f_u32 at h
  exact go (mkK [ke_u29 k]) [] [] [.autoB [6] true []] (gN1 h (fun q => cc_u29 q) fun h => gL h) (by kernel_rfl)
theorem cc_u32 {k : Nat} {r_ : T0.T} {x_ : Int} {n_ : Int} (h : (f_u32 k r_ x_ n_).isSome = true) : C_u32 r_ x_ n_ (v_u32 k r_ x_ n_) := ccG (Φ := C_u32 r_ x_ n_) h (of_u32 k r_ x_ n_)
abbrev R_u25 : Type := List (T0).T
def res_u25 (r : R_u25) : AV := .tup []
def bo_u25 (b_0 : List (T0).T) (r_ : T0.T) (r : R_u25) : List (Nat × Blk) := [(0, .var 147 [.own 1 1]), (1, .row 54 T0 r)]
def args_u25 (b_0 : List (T0).T) (r_ : T0.T) : List AV := [.ptr 0 0 0, .agg (rvs (enc T0 r_))]
def bin_u25 (b_0 : List (T0).T) (r_ : T0.T) : List Blk := [.var 147 [.own 1 0], .row 54 T0 b_0]
abbrev C_u25 (b_0 : List (T0).T) (r_ : T0.T) (r : R_u25) : Prop := CC Tryz.prog 87 (args_u25 b_0 r_) (bin_u25 b_0 r_) (res_u25 r) (bo_u25 b_0 r_ r)
def w_u25 (g : List (T0).T → T0.T → Option R_u25) (b_0 : List (T0).T) (r_ : T0.T) : R_u25 := (g b_0 r_).getD []
def f_u25 : Nat → List (T0).T → T0.T → Option R_u25
  | 0, _, _ => none
  | k + 1, b_0, r_ =>
  bif (decide (r_.2.1 < (1 : Int))) then
  some b_0
  else
  bif ((↑b_0.length : Int) == (0 : Int)) then
  if ((f_u32 k r_ 0 r_.2.1).isSome = true) ∧ ((b_0.length + [v_u32 k r_ (0 : Int) r_.2.1].length) * (24 : Nat) ≤ (140737488355328 : Nat)) then
  some (b_0 ++ [v_u32 k r_ 0 r_.2.1])
  else none
  else
  if ((0 : Int) ≤ IntKind.i64.wrap ((↑b_0.length : Int) - (1 : Int))) ∧ (IntKind.i64.wrap ((↑b_0.length : Int) - (1 : Int)) < (↑b_0.length : Int)) then
  if ((f_u29 k (b_0.getD (IntKind.i64.wrap ((↑b_0.length : Int) - 1)).toNat T0.dflt) (IntKind.i64.wrap ((b_0.getD (IntKind.i64.wrap ((↑b_0.length : Int) - 1)).toNat T0.dflt).2.1 - 1))).isSome = true) then
  bif (IntKind.i64.wrap (r_.1 - v_u29 k (b_0.getD (IntKind.i64.wrap ((↑b_0.length : Int) - (1 : Int))).toNat T0.dflt) (IntKind.i64.wrap ((b_0.getD (IntKind.i64.wrap ((↑b_0.length : Int) - (1 : Int))).toNat T0.dflt).2.1 - (1 : Int)))) != (1 : Int) && IntKind.i64.wrap (r_.1 - v_u29 k (b_0.getD (IntKind.i64.wrap ((↑b_0.length : Int) - (1 : Int))).toNat T0.dflt) (IntKind.i64.wrap ((b_0.getD (IntKind.i64.wrap ((↑b_0.length : Int) - (1 : Int))).toNat T0.dflt).2.1 - (1 : Int)))) != (-1 : Int) || decide ((b_0.getD (IntKind.i64.wrap ((↑b_0.length : Int) - (1 : Int))).toNat T0.dflt).2.1 > (1 : Int)) && (! (IntKind.i64.wrap (r_.1 - v_u29 k (b_0.getD (IntKind.i64.wrap ((↑b_0.length : Int) - (1 : Int))).toNat T0.dflt) (IntKind.i64.wrap ((b_0.getD (IntKind.i64.wrap ((↑b_0.length : Int) - (1 : Int))).toNat T0.dflt).2.1 - (1 : Int)))) == (-1 : Int)) == (b_0.getD (IntKind.i64.wrap ((↑b_0.length : Int) - (1 : Int))).toNat T0.dflt).2.2)) then
  if ((f_u32 k r_ 0 r_.2.1).isSome = true) ∧ ((b_0.length + [v_u32 k r_ (0 : Int) r_.2.1].length) * (24 : Nat) ≤ (140737488355328 : Nat)) then
  some (b_0 ++ [v_u32 k r_ 0 r_.2.1])
  else none
  else
  bif (decide (r_.2.1 > (1 : Int)) && r_.2.2 == (IntKind.i64.wrap (r_.1 - v_u29 k (b_0.getD (IntKind.i64.wrap ((↑b_0.length : Int) - (1 : Int))).toNat T0.dflt) (IntKind.i64.wrap ((b_0.getD (IntKind.i64.wrap ((↑b_0.length : Int) - (1 : Int))).toNat T0.dflt).2.1 - (1 : Int)))) == (-1 : Int))) then
  if ((0 : Int) ≤ IntKind.i64.wrap ((↑b_0.length : Int) - (1 : Int))) ∧ (IntKind.i64.wrap ((↑b_0.length : Int) - (1 : Int)) < (↑b_0.length : Int)) then
  if ((f_u32 k r_ r_.2.1 (IntKind.i64.wrap (r_.2.1 - r_.2.1))).isSome = true) ∧ ((f_u25 k (b_0.set (IntKind.i64.wrap ((↑b_0.length : Int) - 1)).toNat ((b_0.getD (IntKind.i64.wrap ((↑b_0.length : Int) - 1)).toNat T0.dflt).1, IntKind.i64.wrap ((b_0.getD (IntKind.i64.wrap ((↑b_0.length : Int) - 1)).toNat T0.dflt).2.1 + r_.2.1), IntKind.i64.wrap (r_.1 - v_u29 k (b_0.getD (IntKind.i64.wrap ((↑b_0.length : Int) - 1)).toNat T0.dflt) (IntKind.i64.wrap ((b_0.getD (IntKind.i64.wrap ((↑b_0.length : Int) - 1)).toNat T0.dflt).2.1 - 1))) == (-1))) (v_u32 k r_ r_.2.1 (IntKind.i64.wrap (r_.2.1 - r_.2.1)))).isSome = true) then
  some (w_u25 (f_u25 k) (b_0.set (IntKind.i64.wrap ((↑b_0.length : Int) - 1)).toNat ((b_0.getD (IntKind.i64.wrap ((↑b_0.length : Int) - 1)).toNat T0.dflt).1, IntKind.i64.wrap ((b_0.getD (IntKind.i64.wrap ((↑b_0.length : Int) - 1)).toNat T0.dflt).2.1 + r_.2.1), IntKind.i64.wrap (r_.1 - v_u29 k (b_0.getD (IntKind.i64.wrap ((↑b_0.length : Int) - 1)).toNat T0.dflt) (IntKind.i64.wrap ((b_0.getD (IntKind.i64.wrap ((↑b_0.length : Int) - 1)).toNat T0.dflt).2.1 - 1))) == (-1))) (v_u32 k r_ r_.2.1 (IntKind.i64.wrap (r_.2.1 - r_.2.1))))
  else none
  else none
  else
  if ((0 : Int) ≤ IntKind.i64.wrap ((↑b_0.length : Int) - (1 : Int))) ∧ (IntKind.i64.wrap ((↑b_0.length : Int) - (1 : Int)) < (↑b_0.length : Int)) then
  if ((f_u32 k r_ 1 (IntKind.i64.wrap (r_.2.1 - 1))).isSome = true) ∧ ((f_u25 k (b_0.set (IntKind.i64.wrap ((↑b_0.length : Int) - 1)).toNat ((b_0.getD (IntKind.i64.wrap ((↑b_0.length : Int) - 1)).toNat T0.dflt).1, IntKind.i64.wrap ((b_0.getD (IntKind.i64.wrap ((↑b_0.length : Int) - 1)).toNat T0.dflt).2.1 + 1), IntKind.i64.wrap (r_.1 - v_u29 k (b_0.getD (IntKind.i64.wrap ((↑b_0.length : Int) - 1)).toNat T0.dflt) (IntKind.i64.wrap ((b_0.getD (IntKind.i64.wrap ((↑b_0.length : Int) - 1)).toNat T0.dflt).2.1 - 1))) == (-1))) (v_u32 k r_ 1 (IntKind.i64.wrap (r_.2.1 - 1)))).isSome = true) then
  some (w_u25 (f_u25 k) (b_0.set (IntKind.i64.wrap ((↑b_0.length : Int) - 1)).toNat ((b_0.getD (IntKind.i64.wrap ((↑b_0.length : Int) - 1)).toNat T0.dflt).1, IntKind.i64.wrap ((b_0.getD (IntKind.i64.wrap ((↑b_0.length : Int) - 1)).toNat T0.dflt).2.1 + 1), IntKind.i64.wrap (r_.1 - v_u29 k (b_0.getD (IntKind.i64.wrap ((↑b_0.length : Int) - 1)).toNat T0.dflt) (IntKind.i64.wrap ((b_0.getD (IntKind.i64.wrap ((↑b_0.length : Int) - 1)).toNat T0.dflt).2.1 - 1))) == (-1))) (v_u32 k r_ 1 (IntKind.i64.wrap (r_.2.1 - 1))))
  else none
  else none
  else none
  else none
def v_u25 (k : Nat) (b_0 : List (T0).T) (r_ : T0.T) : R_u25 := (f_u25 k b_0 r_).getD []
def ke_u25 (k : Nat) : Ke := (87, fun xs => match xs with
  | [.ptr _ _ _, _] => some [true, false]
  | _ => none, fun xs bs => match xs, bs with
  | [.ptr 0 0 0, .agg qr_], [.var 147 [.own 1 0], .row 54 tb_0_ qb_0] => (decS [] T0 qr_).bind fun r_ => (castL tb_0_ T0 qb_0).bind fun b_0 => some (.one (res_u25 (v_u25 k b_0 r_), bo_u25 b_0 r_ (v_u25 k b_0 r_)))
  | _, _ => none)
theorem of_u25 : ∀ (k : Nat) (b_0 : List (T0).T) (r_ : T0.T) (r : R_u25), f_u25 k b_0 r_ = some r → C_u25 b_0 r_ r
  | 0, b_0, r_, r, h => by simp [f_u25] at h
  | k + 1, b_0, r_, r, h => by
    have ih : ∀ {b_0 : List (T0).T} {r_ : T0.T}, (f_u25 k b_0 r_).isSome = true → C_u25 b_0 r_ (v_u25 k b_0 r_) := fun {b_0} {r_} h => ccG (Φ := C_u25 b_0 r_) h (of_u25 k b_0 r_)
    refine CC.of (fn := Tryz.f87) (by kernel_rfl) (by kernel_rfl) (by kernel_rfl) (by kernel_rfl) ?_
    rw [f_u25] at h
    exact go (mkK [ke_u29 k, ke_u32 k, ke_u25 k]) [] [] [.autoB [] true [1]] (gT h (fun c h => gL h) fun c h => gT h (fun c h => gN h (fun q => conjC (cc_u32 q.1) (conjC q.2 conj0)) fun h => gL h) fun c h => gN2 h fun h => gN1 h (fun q => cc_u29 q) fun h => gT h (fun c h => gN h (fun q => conjC (cc_u32 q.1) (conjC q.2 conj0)) fun h => gL h) fun c h => gT h (fun c h => gN2 h fun h => gN h (fun q => conjC (cc_u32 q.1) (conjC (ih q.2) conj0)) fun h => gL h) fun c h => gN2 h fun h => gN h (fun q => conjC (cc_u32 q.1) (conjC (ih q.2) conj0)) fun h => gL h) (by kernel_rfl)
theorem cc_u25 {k : Nat} {b_0 : List (T0).T} {r_ : T0.T} (h : (f_u25 k b_0 r_).isSome = true) : C_u25 b_0 r_ (v_u25 k b_0 r_) := ccG (Φ := C_u25 b_0 r_) h (of_u25 k b_0 r_)
abbrev R_u27 : Type := List (T0).T
def res_u27 (r : R_u27) : AV := .tup []
def bo_u27 (m_ : List (T0).T) (from_ : Int) (to_ : Int) (f_f00 : List (T0).T) (r : R_u27) : List (Nat × Blk) := [(0, .var 147 [.own 1 1]), (1, .row 54 T0 r)]
def args_u27 (m_ : List (T0).T) (from_ : Int) (to_ : Int) (f_f00 : List (T0).T) : List AV := [.r (.ro T0 m_), .r (.v (.int .i64 from_)), .r (.v (.int .i64 to_)), .fn (.func 87) [.ptr 0 0 0] []]
def bin_u27 (m_ : List (T0).T) (from_ : Int) (to_ : Int) (f_f00 : List (T0).T) : List Blk := [.var 147 [.own 1 0], .row 54 T0 f_f00]
abbrev C_u27 (m_ : List (T0).T) (from_ : Int) (to_ : Int) (f_f00 : List (T0).T) (r : R_u27) : Prop := CC Tryz.prog 86 (args_u27 m_ from_ to_ f_f00) (bin_u27 m_ from_ to_ f_f00) (res_u27 r) (bo_u27 m_ from_ to_ f_f00 r)
def st_u27_2 (m_ : List (T0).T) (from_ : Int) (to_ : Int) (f_f00 : List (T0).T) (y0 : Int) (y1 : Int) (y2 : Int) (y3 : List (T0).T) (y4 : Int) (y5 : Int) (y6 : List (T0).T) : St := ⟨mkS 46 [(1, .r (.v (.int .i64 y0))), (2, .r (.v (.int .i64 y1))), (3, .fn ((Fn.func 87)) [.ptr 0 0 0] []), (8, .r (.v (.int .i64 y2))), (13, .r (.ro T0 y3)), (14, .r (.v (.int .i64 y4))), (15, .r (.v (.int .i64 y5)))], [(0, 0, .var 147 [.own 1 1]), (1, 1, .row 54 T0 y6)]⟩
def f_u27_2 (k : Nat) (m_ : List (T0).T) (from_ : Int) (to_ : Int) (f_f00 : List (T0).T) : Nat → Int → Int → Int → List (T0).T → Int → Int → List (T0).T → Option R_u27
  | 0, _, _, _, _, _, _, _ => none
  | j + 1, y0, y1, y2, y3, y4, y5, y6 =>
  bif (decide (y5 < y4)) then
  if (0 ≤ y5) ∧ (y5 < (↑y3.length : Int)) then
  bif (decide ((if y2 > y0 then y2 else y0) < if IntKind.i64.wrap (y2 + (y3.getD y5.toNat T0.dflt).2.1) < y1 then IntKind.i64.wrap (y2 + (y3.getD y5.toNat T0.dflt).2.1) else y1)) then
  if ((f_u32 k (y3.getD y5.toNat T0.dflt) (IntKind.i64.wrap ((if y2 > y0 then y2 else y0) - y2)) (IntKind.i64.wrap ((if IntKind.i64.wrap (y2 + (y3.getD y5.toNat T0.dflt).2.1) < y1 then IntKind.i64.wrap (y2 + (y3.getD y5.toNat T0.dflt).2.1) else y1) - if y2 > y0 then y2 else y0))).isSome = true) ∧ ((f_u25 k y6 (v_u32 k (y3.getD y5.toNat T0.dflt) (IntKind.i64.wrap ((if y2 > y0 then y2 else y0) - y2)) (IntKind.i64.wrap ((if IntKind.i64.wrap (y2 + (y3.getD y5.toNat T0.dflt).2.1) < y1 then IntKind.i64.wrap (y2 + (y3.getD y5.toNat T0.dflt).2.1) else y1) - if y2 > y0 then y2 else y0)))).isSome = true) then
  f_u27_2 k m_ from_ to_ f_f00 j y0 y1 ((IntKind.i64.wrap (y2 + (y3.getD y5.toNat T0.dflt).2.1))) y3 y4 ((IntKind.i64.wrap (y5 + 1))) ((v_u25 k y6 (v_u32 k (y3.getD y5.toNat T0.dflt) (IntKind.i64.wrap ((if y2 > y0 then y2 else y0) - y2)) (IntKind.i64.wrap ((if IntKind.i64.wrap (y2 + (y3.getD y5.toNat T0.dflt).2.1) < y1 then IntKind.i64.wrap (y2 + (y3.getD y5.toNat T0.dflt).2.1) else y1) - if y2 > y0 then y2 else y0)))))
  else none
  else
  f_u27_2 k m_ from_ to_ f_f00 j y0 y1 ((IntKind.i64.wrap (y2 + (y3.getD y5.toNat T0.dflt).2.1))) y3 y4 ((IntKind.i64.wrap (y5 + 1))) y6
  else none
  else
  some y6
def f_u27 (k : Nat) (m_ : List (T0).T) (from_ : Int) (to_ : Int) (f_f00 : List (T0).T) : Option R_u27 :=
  f_u27_2 k m_ from_ to_ f_f00 k from_ to_ 0 m_ ((↑m_.length : Int)) 0 f_f00
def v_u27 (k : Nat) (m_ : List (T0).T) (from_ : Int) (to_ : Int) (f_f00 : List (T0).T) : R_u27 := (f_u27 k m_ from_ to_ f_f00).getD []
def ke_u27 (k : Nat) : Ke := (86, fun xs => match xs with
  | [_, _, _, .fn (.func 87) _ _] => some [false, false, false, true]
  | _ => none, fun xs bs => match xs, bs with
  | [.r (.ro tm__ qm_), .r (.v (.int .i64 from_)), .r (.v (.int .i64 to_)), .fn (.func 87) [.ptr 0 0 0] []], [.var 147 [.own 1 0], .row 54 tf_f00_ qf_f00] => (castL tm__ T0 qm_).bind fun m_ => (castL tf_f00_ T0 qf_f00).bind fun f_f00 => some (.one (res_u27 (v_u27 k m_ from_ to_ f_f00), bo_u27 m_ from_ to_ f_f00 (v_u27 k m_ from_ to_ f_f00)))
  | _, _ => none)
def cs_u27 : List (Nat × List Cmd) := [(2, [.autoB [1, 2, 3, 8, 13, 14, 15] false [1]])]
abbrev E_u27 (m_ : List (T0).T) (from_ : Int) (to_ : Int) (f_f00 : List (T0).T) (todo : List Item) (st : St) (o : Option R_u27) : Prop := ∀ r, o = some r → Ev Tryz.prog Tryz.f86 2 todo st (res_u27 r) (bo_u27 m_ from_ to_ f_f00 r)
theorem ev_u27 (k : Nat) (m_ : List (T0).T) (from_ : Int) (to_ : Int) (f_f00 : List (T0).T) : ∀ j, (∀ (y0 : Int) (y1 : Int) (y2 : Int) (y3 : List (T0).T) (y4 : Int) (y5 : Int) (y6 : List (T0).T), E_u27 m_ from_ to_ f_f00 (placeAt Tryz.f86 2) (st_u27_2 m_ from_ to_ f_f00 y0 y1 y2 y3 y4 y5 y6) (f_u27_2 k m_ from_ to_ f_f00 j y0 y1 y2 y3 y4 y5 y6))
  | 0 => fun _ _ _ _ _ _ _ _ h => (nomatch h)
  | j + 1 => by
    have ih := @ev_u27 k m_ from_ to_ f_f00 j
    · intro y0 y1 y2 y3 y4 y5 y6 r h
      rw [f_u27_2] at h
      exact go (mkK [ke_u32 k, ke_u25 k]) [] cs_u27 [.autoB [] true [1]] (gT h (fun c h => gN2 h fun h => gT h (fun c h => gN h (fun q => conjC (cc_u32 q.1) (conjC (cc_u25 q.2) conj0)) fun h => gC h 2 (ih _ _ _ _ _ _ _ _)) fun c h => gC h 2 (ih _ _ _ _ _ _ _ _)) fun c h => gL h) (by kernel_rfl)
theorem of_u27 (k : Nat) (m_ : List (T0).T) (from_ : Int) (to_ : Int) (f_f00 : List (T0).T) (r : R_u27) (h : f_u27 k m_ from_ to_ f_f00 = some r) : C_u27 m_ from_ to_ f_f00 r := by
  refine CC.of (fn := Tryz.f86) (by kernel_rfl) (by kernel_rfl) (by kernel_rfl) (by kernel_rfl) ?_
  unfold f_u27 at h
  exact go (mkK [ke_u32 k, ke_u25 k]) [] cs_u27 [.autoB [] true [1]] (gC h 2 ((ev_u27 k m_ from_ to_ f_f00 k) _ _ _ _ _ _ _ _)) (by kernel_rfl)
theorem cc_u27 {k : Nat} {m_ : List (T0).T} {from_ : Int} {to_ : Int} {f_f00 : List (T0).T} (h : (f_u27 k m_ from_ to_ f_f00).isSome = true) : C_u27 m_ from_ to_ f_f00 (v_u27 k m_ from_ to_ f_f00) := ccG (Φ := C_u27 m_ from_ to_ f_f00) h (of_u27 k m_ from_ to_ f_f00)
abbrev R_u20 : Type := List (T0).T
def res_u20 (r : R_u20) : AV := .tup []
def bo_u20 (p_ : T0.T) (z00 : List (T0).T) (r : R_u20) : List (Nat × Blk) := [(0, .var 48 [.own 1 1]), (1, .row 54 T0 r)]
def args_u20 (p_ : T0.T) (z00 : List (T0).T) : List AV := [.agg (rvs (enc T0 p_)), .ptr 0 0 0]
def bin_u20 (p_ : T0.T) (z00 : List (T0).T) : List Blk := [.var 48 [.own 1 0], .row 54 T0 z00]
abbrev C_u20 (p_ : T0.T) (z00 : List (T0).T) (r : R_u20) : Prop := CC Tryz.prog 88 (args_u20 p_ z00) (bin_u20 p_ z00) (res_u20 r) (bo_u20 p_ z00 r)
def f_u20 (k : Nat) (p_ : T0.T) (z00 : List (T0).T) : Option R_u20 :=
  if ((z00.length + [p_].length) * (24 : Nat) ≤ (140737488355328 : Nat)) then
  some (z00 ++ [p_])
  else none
def v_u20 (k : Nat) (p_ : T0.T) (z00 : List (T0).T) : R_u20 := (f_u20 k p_ z00).getD []
def ke_u20 (k : Nat) : Ke := (88, fun xs => match xs with
  | [_, .ptr _ _ _] => some [false, true]
  | _ => none, fun xs bs => match xs, bs with
  | [.agg qp_, .ptr 0 0 0], [.var 48 [.own 1 0], .row 54 tz00_ qz00] => (decS [] T0 qp_).bind fun p_ => (castL tz00_ T0 qz00).bind fun z00 => some (.one (res_u20 (v_u20 k p_ z00), bo_u20 p_ z00 (v_u20 k p_ z00)))
  | _, _ => none)
theorem of_u20 (k : Nat) (p_ : T0.T) (z00 : List (T0).T) (r : R_u20) (h : f_u20 k p_ z00 = some r) : C_u20 p_ z00 r := by
  refine CC.of (fn := Tryz.f88) (by kernel_rfl) (by kernel_rfl) (by kernel_rfl) (by kernel_rfl) ?_
  unfold f_u20 at h
  exact go (mkK []) [] [] [.autoB [] true [1]] (gN1 h id fun h => gL h) (by kernel_rfl)
theorem cc_u20 {k : Nat} {p_ : T0.T} {z00 : List (T0).T} (h : (f_u20 k p_ z00).isSome = true) : C_u20 p_ z00 (v_u20 k p_ z00) := ccG (Φ := C_u20 p_ z00) h (of_u20 k p_ z00)
abbrev R_u28 : Type := List (T0).T
def res_u28 (r : R_u28) : AV := .tup []
def bo_u28 (m_ : List (T0).T) (from_ : Int) (to_ : Int) (f_c00 : List (T0).T) (r : R_u28) : List (Nat × Blk) := [(0, .var 48 [.own 1 1]), (1, .row 54 T0 r)]
def args_u28 (m_ : List (T0).T) (from_ : Int) (to_ : Int) (f_c00 : List (T0).T) : List AV := [.r (.ro T0 m_), .r (.v (.int .i64 from_)), .r (.v (.int .i64 to_)), .fn (.func 88) [] [.ptr 0 0 0]]
def bin_u28 (m_ : List (T0).T) (from_ : Int) (to_ : Int) (f_c00 : List (T0).T) : List Blk := [.var 48 [.own 1 0], .row 54 T0 f_c00]
abbrev C_u28 (m_ : List (T0).T) (from_ : Int) (to_ : Int) (f_c00 : List (T0).T) (r : R_u28) : Prop := CC Tryz.prog 86 (args_u28 m_ from_ to_ f_c00) (bin_u28 m_ from_ to_ f_c00) (res_u28 r) (bo_u28 m_ from_ to_ f_c00 r)
def st_u28_2 (m_ : List (T0).T) (from_ : Int) (to_ : Int) (f_c00 : List (T0).T) (y0 : Int) (y1 : Int) (y2 : Int) (y3 : List (T0).T) (y4 : Int) (y5 : Int) (y6 : List (T0).T) : St := ⟨mkS 46 [(1, .r (.v (.int .i64 y0))), (2, .r (.v (.int .i64 y1))), (3, .fn ((Fn.func 88)) [] [.ptr 0 0 0]), (8, .r (.v (.int .i64 y2))), (13, .r (.ro T0 y3)), (14, .r (.v (.int .i64 y4))), (15, .r (.v (.int .i64 y5)))], [(0, 0, .var 48 [.own 1 1]), (1, 1, .row 54 T0 y6)]⟩
def f_u28_2 (k : Nat) (m_ : List (T0).T) (from_ : Int) (to_ : Int) (f_c00 : List (T0).T) : Nat → Int → Int → Int → List (T0).T → Int → Int → List (T0).T → Option R_u28
  | 0, _, _, _, _, _, _, _ => none
  | j + 1, y0, y1, y2, y3, y4, y5, y6 =>
  bif (decide (y5 < y4)) then
  if (0 ≤ y5) ∧ (y5 < (↑y3.length : Int)) then
  bif (decide ((if y2 > y0 then y2 else y0) < if IntKind.i64.wrap (y2 + (y3.getD y5.toNat T0.dflt).2.1) < y1 then IntKind.i64.wrap (y2 + (y3.getD y5.toNat T0.dflt).2.1) else y1)) then
  if ((f_u32 k (y3.getD y5.toNat T0.dflt) (IntKind.i64.wrap ((if y2 > y0 then y2 else y0) - y2)) (IntKind.i64.wrap ((if IntKind.i64.wrap (y2 + (y3.getD y5.toNat T0.dflt).2.1) < y1 then IntKind.i64.wrap (y2 + (y3.getD y5.toNat T0.dflt).2.1) else y1) - if y2 > y0 then y2 else y0))).isSome = true) ∧ ((f_u20 k (v_u32 k (y3.getD y5.toNat T0.dflt) (IntKind.i64.wrap ((if y2 > y0 then y2 else y0) - y2)) (IntKind.i64.wrap ((if IntKind.i64.wrap (y2 + (y3.getD y5.toNat T0.dflt).2.1) < y1 then IntKind.i64.wrap (y2 + (y3.getD y5.toNat T0.dflt).2.1) else y1) - if y2 > y0 then y2 else y0))) y6).isSome = true) then
  f_u28_2 k m_ from_ to_ f_c00 j y0 y1 ((IntKind.i64.wrap (y2 + (y3.getD y5.toNat T0.dflt).2.1))) y3 y4 ((IntKind.i64.wrap (y5 + 1))) ((v_u20 k (v_u32 k (y3.getD y5.toNat T0.dflt) (IntKind.i64.wrap ((if y2 > y0 then y2 else y0) - y2)) (IntKind.i64.wrap ((if IntKind.i64.wrap (y2 + (y3.getD y5.toNat T0.dflt).2.1) < y1 then IntKind.i64.wrap (y2 + (y3.getD y5.toNat T0.dflt).2.1) else y1) - if y2 > y0 then y2 else y0))) y6))
  else none
  else
  f_u28_2 k m_ from_ to_ f_c00 j y0 y1 ((IntKind.i64.wrap (y2 + (y3.getD y5.toNat T0.dflt).2.1))) y3 y4 ((IntKind.i64.wrap (y5 + 1))) y6
  else none
  else
  some y6
def f_u28 (k : Nat) (m_ : List (T0).T) (from_ : Int) (to_ : Int) (f_c00 : List (T0).T) : Option R_u28 :=
  f_u28_2 k m_ from_ to_ f_c00 k from_ to_ 0 m_ ((↑m_.length : Int)) 0 f_c00
def v_u28 (k : Nat) (m_ : List (T0).T) (from_ : Int) (to_ : Int) (f_c00 : List (T0).T) : R_u28 := (f_u28 k m_ from_ to_ f_c00).getD []
def ke_u28 (k : Nat) : Ke := (86, fun xs => match xs with
  | [_, _, _, .fn (.func 88) _ _] => some [false, false, false, true]
  | _ => none, fun xs bs => match xs, bs with
  | [.r (.ro tm__ qm_), .r (.v (.int .i64 from_)), .r (.v (.int .i64 to_)), .fn (.func 88) [] [.ptr 0 0 0]], [.var 48 [.own 1 0], .row 54 tf_c00_ qf_c00] => (castL tm__ T0 qm_).bind fun m_ => (castL tf_c00_ T0 qf_c00).bind fun f_c00 => some (.one (res_u28 (v_u28 k m_ from_ to_ f_c00), bo_u28 m_ from_ to_ f_c00 (v_u28 k m_ from_ to_ f_c00)))
  | _, _ => none)
def cs_u28 : List (Nat × List Cmd) := [(2, [.autoB [1, 2, 3, 8, 13, 14, 15] false [1]])]
abbrev E_u28 (m_ : List (T0).T) (from_ : Int) (to_ : Int) (f_c00 : List (T0).T) (todo : List Item) (st : St) (o : Option R_u28) : Prop := ∀ r, o = some r → Ev Tryz.prog Tryz.f86 2 todo st (res_u28 r) (bo_u28 m_ from_ to_ f_c00 r)
theorem ev_u28 (k : Nat) (m_ : List (T0).T) (from_ : Int) (to_ : Int) (f_c00 : List (T0).T) : ∀ j, (∀ (y0 : Int) (y1 : Int) (y2 : Int) (y3 : List (T0).T) (y4 : Int) (y5 : Int) (y6 : List (T0).T), E_u28 m_ from_ to_ f_c00 (placeAt Tryz.f86 2) (st_u28_2 m_ from_ to_ f_c00 y0 y1 y2 y3 y4 y5 y6) (f_u28_2 k m_ from_ to_ f_c00 j y0 y1 y2 y3 y4 y5 y6))
  | 0 => fun _ _ _ _ _ _ _ _ h => (nomatch h)
  | j + 1 => by
    have ih := @ev_u28 k m_ from_ to_ f_c00 j
    · intro y0 y1 y2 y3 y4 y5 y6 r h
      rw [f_u28_2] at h
      exact go (mkK [ke_u32 k, ke_u20 k]) [] cs_u28 [.autoB [] true [1]] (gT h (fun c h => gN2 h fun h => gT h (fun c h => gN h (fun q => conjC (cc_u32 q.1) (conjC (cc_u20 q.2) conj0)) fun h => gC h 2 (ih _ _ _ _ _ _ _ _)) fun c h => gC h 2 (ih _ _ _ _ _ _ _ _)) fun c h => gL h) (by kernel_rfl)
theorem of_u28 (k : Nat) (m_ : List (T0).T) (from_ : Int) (to_ : Int) (f_c00 : List (T0).T) (r : R_u28) (h : f_u28 k m_ from_ to_ f_c00 = some r) : C_u28 m_ from_ to_ f_c00 r := by
  refine CC.of (fn := Tryz.f86) (by kernel_rfl) (by kernel_rfl) (by kernel_rfl) (by kernel_rfl) ?_
  unfold f_u28 at h
  exact go (mkK [ke_u32 k, ke_u20 k]) [] cs_u28 [.autoB [] true [1]] (gC h 2 ((ev_u28 k m_ from_ to_ f_c00 k) _ _ _ _ _ _ _ _)) (by kernel_rfl)
theorem cc_u28 {k : Nat} {m_ : List (T0).T} {from_ : Int} {to_ : Int} {f_c00 : List (T0).T} (h : (f_u28 k m_ from_ to_ f_c00).isSome = true) : C_u28 m_ from_ to_ f_c00 (v_u28 k m_ from_ to_ f_c00) := ccG (Φ := C_u28 m_ from_ to_ f_c00) h (of_u28 k m_ from_ to_ f_c00)
abbrev R_u33 : Type := List (T0).T
def res_u33 (r : R_u33) : AV := .tup []
def bo_u33 (m_ : List (T0).T) (f_f00 : List (T0).T) (r : R_u33) : List (Nat × Blk) := [(0, .var 147 [.own 1 1]), (1, .row 54 T0 r)]
def args_u33 (m_ : List (T0).T) (f_f00 : List (T0).T) : List AV := [.r (.ro T0 m_), .fn (.func 87) [.ptr 0 0 0] []]
def bin_u33 (m_ : List (T0).T) (f_f00 : List (T0).T) : List Blk := [.var 147 [.own 1 0], .row 54 T0 f_f00]
abbrev C_u33 (m_ : List (T0).T) (f_f00 : List (T0).T) (r : R_u33) : Prop := CC Tryz.prog 89 (args_u33 m_ f_f00) (bin_u33 m_ f_f00) (res_u33 r) (bo_u33 m_ f_f00 r)
def st_u33_1 (m_ : List (T0).T) (f_f00 : List (T0).T) (y0 : List (T0).T) (y1 : Int) (y2 : List (T0).T) : St := ⟨mkS 35 [(0, .r (.ro T0 y0)), (1, .fn ((Fn.func 87)) [.ptr 0 0 0] []), (4, .r (.v (.int .i64 y1)))], [(0, 0, .var 147 [.own 1 1]), (1, 1, .row 54 T0 y2)]⟩
def f_u33_1 (k : Nat) (m_ : List (T0).T) (f_f00 : List (T0).T) : Nat → List (T0).T → Int → List (T0).T → Option R_u33
  | 0, _, _, _ => none
  | j + 1, y0, y1, y2 =>
  bif (decide (y1 ≥ (0 : Int))) then
  if (0 ≤ y1) ∧ (y1 < (↑y0.length : Int)) then
  if ((f_u29 k (y0.getD y1.toNat T0.dflt) (IntKind.i64.wrap ((y0.getD y1.toNat T0.dflt).2.1 - 1))).isSome = true) ∧ ((f_u25 k y2 (v_u29 k (y0.getD y1.toNat T0.dflt) (IntKind.i64.wrap ((y0.getD y1.toNat T0.dflt).2.1 - 1)), (y0.getD y1.toNat T0.dflt).2.1, ! (y0.getD y1.toNat T0.dflt).2.2 && decide ((y0.getD y1.toNat T0.dflt).2.1 > 1))).isSome = true) then
  f_u33_1 k m_ f_f00 j y0 ((IntKind.i64.wrap (y1 - 1))) ((v_u25 k y2 (v_u29 k (y0.getD y1.toNat T0.dflt) (IntKind.i64.wrap ((y0.getD y1.toNat T0.dflt).2.1 - 1)), (y0.getD y1.toNat T0.dflt).2.1, ! (y0.getD y1.toNat T0.dflt).2.2 && decide ((y0.getD y1.toNat T0.dflt).2.1 > 1))))
  else none
  else none
  else
  some y2
def f_u33 (k : Nat) (m_ : List (T0).T) (f_f00 : List (T0).T) : Option R_u33 :=
  f_u33_1 k m_ f_f00 k m_ ((IntKind.i64.wrap ((↑m_.length : Int) - 1))) f_f00
def v_u33 (k : Nat) (m_ : List (T0).T) (f_f00 : List (T0).T) : R_u33 := (f_u33 k m_ f_f00).getD []
def ke_u33 (k : Nat) : Ke := (89, fun xs => match xs with
  | [_, .fn (.func 87) _ _] => some [false, true]
  | _ => none, fun xs bs => match xs, bs with
  | [.r (.ro tm__ qm_), .fn (.func 87) [.ptr 0 0 0] []], [.var 147 [.own 1 0], .row 54 tf_f00_ qf_f00] => (castL tm__ T0 qm_).bind fun m_ => (castL tf_f00_ T0 qf_f00).bind fun f_f00 => some (.one (res_u33 (v_u33 k m_ f_f00), bo_u33 m_ f_f00 (v_u33 k m_ f_f00)))
  | _, _ => none)
def cs_u33 : List (Nat × List Cmd) := [(1, [.autoB [0, 1, 4] false [1]])]
abbrev E_u33 (m_ : List (T0).T) (f_f00 : List (T0).T) (todo : List Item) (st : St) (o : Option R_u33) : Prop := ∀ r, o = some r → Ev Tryz.prog Tryz.f89 2 todo st (res_u33 r) (bo_u33 m_ f_f00 r)
theorem ev_u33 (k : Nat) (m_ : List (T0).T) (f_f00 : List (T0).T) : ∀ j, (∀ (y0 : List (T0).T) (y1 : Int) (y2 : List (T0).T), E_u33 m_ f_f00 (placeAt Tryz.f89 1) (st_u33_1 m_ f_f00 y0 y1 y2) (f_u33_1 k m_ f_f00 j y0 y1 y2))
  | 0 => fun _ _ _ _ h => (nomatch h)
  | j + 1 => by
    have ih := @ev_u33 k m_ f_f00 j
    · intro y0 y1 y2 r h
      rw [f_u33_1] at h
      exact go (mkK [ke_u29 k, ke_u25 k]) [] cs_u33 [.autoB [] true [1]] (gT h (fun c h => gN2 h fun h => gN h (fun q => conjC (cc_u29 q.1) (conjC (cc_u25 q.2) conj0)) fun h => gC h 1 (ih _ _ _ _)) fun c h => gL h) (by kernel_rfl)
theorem of_u33 (k : Nat) (m_ : List (T0).T) (f_f00 : List (T0).T) (r : R_u33) (h : f_u33 k m_ f_f00 = some r) : C_u33 m_ f_f00 r := by
  refine CC.of (fn := Tryz.f89) (by kernel_rfl) (by kernel_rfl) (by kernel_rfl) (by kernel_rfl) ?_
  unfold f_u33 at h
  exact go (mkK [ke_u29 k, ke_u25 k]) [] cs_u33 [.autoB [] true [1]] (gC h 1 ((ev_u33 k m_ f_f00 k) _ _ _ _)) (by kernel_rfl)
theorem cc_u33 {k : Nat} {m_ : List (T0).T} {f_f00 : List (T0).T} (h : (f_u33 k m_ f_f00).isSome = true) : C_u33 m_ f_f00 (v_u33 k m_ f_f00) := ccG (Φ := C_u33 m_ f_f00) h (of_u33 k m_ f_f00)
abbrev RA_u26 : Type := Int
def resA_u26 (r : RA_u26) : AV := .tup [.r (.v (Value.slice none 0 0)), .r (.v (.int .i64 r))]
def boA_u26 (b_0 : List (T0).T) (r : RA_u26) : List (Nat × Blk) := [(0, .var 147 [.own 1 0]), (0, .row 54 T0 b_0)]
abbrev RB_u26 : Type := Int
def resB_u26 (r : RB_u26) : AV := .tup [.own 1 0, .r (.v (.int .i64 r))]
def boB_u26 (b_0 : List (T0).T) (r : RB_u26) : List (Nat × Blk) := [(0, .var 147 [.own 1 0]), (0, .row 54 T0 b_0)]
abbrev R_u26 : Type := RA_u26 ⊕ RB_u26
def res_u26 (r : R_u26) : AV := match r with
  | .inl a => resA_u26 a
  | .inr a => resB_u26 a
def bo_u26 (b_0 : List (T0).T) (r : R_u26) : List (Nat × Blk) := match r with
  | .inl a => boA_u26 b_0 a
  | .inr a => boB_u26 b_0 a
def args_u26 (b_0 : List (T0).T) : List AV := [.ptr 0 0 0]
def bin_u26 (b_0 : List (T0).T) : List Blk := [.var 147 [.own 1 0], .row 54 T0 b_0]
abbrev C_u26 (b_0 : List (T0).T) (r : R_u26) : Prop := CC Tryz.prog 90 (args_u26 b_0) (bin_u26 b_0) (res_u26 r) (bo_u26 b_0 r)
abbrev CA_u26 (b_0 : List (T0).T) (r : RA_u26) : Prop := CC Tryz.prog 90 (args_u26 b_0) (bin_u26 b_0) (resA_u26 r) (boA_u26 b_0 r)
abbrev CB_u26 (b_0 : List (T0).T) (r : RB_u26) : Prop := CC Tryz.prog 90 (args_u26 b_0) (bin_u26 b_0) (resB_u26 r) (boB_u26 b_0 r)
def f_u26 (k : Nat) (b_0 : List (T0).T) : Option R_u26 :=
  bif (decide ((↑b_0.length : Int) > (256 : Int))) then
  some ((.inl 8))
  else
  some ((.inr 0))
def v_u26 (k : Nat) (b_0 : List (T0).T) : R_u26 := (f_u26 k b_0).getD (.inl 0)
def vA_u26 (k : Nat) (b_0 : List (T0).T) : RA_u26 := lft 0 (v_u26 k b_0)
def vB_u26 (k : Nat) (b_0 : List (T0).T) : RB_u26 := rgt 0 (v_u26 k b_0)
def ke_u26 (k : Nat) : Ke := (90, fun xs => match xs with
  | [.ptr _ _ _] => some [true]
  | _ => none, fun xs bs => match xs, bs with
  | [.ptr 0 0 0], [.var 147 [.own 1 0], .row 54 tb_0_ qb_0] => (castL tb_0_ T0 qb_0).bind fun b_0 => some (.two (v_u26 k b_0).isLeft (resA_u26 (vA_u26 k b_0), boA_u26 b_0 (vA_u26 k b_0)) (resB_u26 (vB_u26 k b_0), boB_u26 b_0 (vB_u26 k b_0)))
  | _, _ => none)
theorem of_u26 (k : Nat) (b_0 : List (T0).T) (r : R_u26) (h : f_u26 k b_0 = some r) : C_u26 b_0 r := by
  refine CC.of (fn := Tryz.f90) (by kernel_rfl) (by kernel_rfl) (by kernel_rfl) (by kernel_rfl) ?_
  unfold f_u26 at h
  exact go (mkK []) [] [] [.autoB [2, 3] true []] (gT h (fun c h => gL h) fun c h => gL h) (by kernel_rfl)
theorem cc_u26 {k : Nat} {b_0 : List (T0).T} (h : (f_u26 k b_0).isSome = true) : C_u26 b_0 (v_u26 k b_0) := ccG (Φ := C_u26 b_0) h (of_u26 k b_0)
theorem ccA_u26 {k : Nat} {b_0 : List (T0).T} (h : (f_u26 k b_0).isSome = true) (hb : (v_u26 k b_0).isLeft = true) : CA_u26 b_0 (vA_u26 k b_0) := ccAG (Φ := C_u26 b_0) (cc_u26 h) hb
theorem ccB_u26 {k : Nat} {b_0 : List (T0).T} (h : (f_u26 k b_0).isSome = true) (hb : (v_u26 k b_0).isLeft = false) : CB_u26 b_0 (vB_u26 k b_0) := ccBG (Φ := C_u26 b_0) (cc_u26 h) hb
abbrev R_u19 : Type := List (T0).T × Int
def res_u19 (r : R_u19) : AV := .tup [.r (.ro T0 r.1), .r (.v (.int .i64 r.2))]
def bo_u19 (inner_ : List (T0).T) (outer_ : List (T0).T) (r : R_u19) : List (Nat × Blk) := []
def args_u19 (inner_ : List (T0).T) (outer_ : List (T0).T) : List AV := [.r (.ro T0 inner_), .r (.ro T0 outer_)]
def bin_u19 (inner_ : List (T0).T) (outer_ : List (T0).T) : List Blk := []
abbrev C_u19 (inner_ : List (T0).T) (outer_ : List (T0).T) (r : R_u19) : Prop := CC Tryz.prog 65 (args_u19 inner_ outer_) (bin_u19 inner_ outer_) (res_u19 r) (bo_u19 inner_ outer_ r)
def st_u19_9 (y0 : List (T0).T) (y1 : List (T0).T) (y2 : Int) (y3 : List (T0).T) (y4 : Int) (y5 : Int) : St := ⟨mkS 82 [(0, .r (.ro T0 y0)), (1, .r (.ro T0 y1)), (8, .r (.v (.int .i64 y2))), (27, .r (.ro T0 y3)), (28, .r (.v (.int .i64 y4))), (29, .r (.v (.int .i64 y5)))], []⟩
def st_u19_16 (y0 : List (T0).T) (y1 : List (T0).T) (y2 : Int) (y3 : Int) (y4 : List (T0).T) : St := ⟨mkS 82 [(1, .r (.ro T0 y0)), (11, .ptr 1000000 0 0), (44, .r (.ro T0 y1)), (45, .r (.v (.int .i64 y2))), (46, .r (.v (.int .i64 y3)))], [(1000000, 0, .var 147 [.own 1000001 0]), (1000001, 0, .row 54 T0 y4)]⟩
mutual
def f_u19_9 (k : Nat) : Nat → List (T0).T → List (T0).T → Int → List (T0).T → Int → Int → Option R_u19
  | 0, _, _, _, _, _, _ => none
  | j + 1, y0, y1, y2, y3, y4, y5 =>
  bif (decide (y5 < y4)) then
  if (0 ≤ y5) ∧ (y5 < (↑y3.length : Int)) then
  if ((f_u29 k (y3.getD y5.toNat T0.dflt) (IntKind.i64.wrap ((y3.getD y5.toNat T0.dflt).2.1 - 1))).isSome = true) then
  bif (decide ((if v_u29 k (y3.getD y5.toNat T0.dflt) (IntKind.i64.wrap ((y3.getD y5.toNat T0.dflt).2.1 - (1 : Int))) > (y3.getD y5.toNat T0.dflt).1 then v_u29 k (y3.getD y5.toNat T0.dflt) (IntKind.i64.wrap ((y3.getD y5.toNat T0.dflt).2.1 - (1 : Int))) else (y3.getD y5.toNat T0.dflt).1) ≥ y2)) then
  some (([], 21))
  else
  f_u19_9 k j y0 y1 y2 y3 y4 ((IntKind.i64.wrap (y5 + 1)))
  else none
  else none
  else
  f_u19_16 k j y1 y0 ((↑y0.length : Int)) 0 ([])
def f_u19_16 (k : Nat) : Nat → List (T0).T → List (T0).T → Int → Int → List (T0).T → Option R_u19
  | 0, _, _, _, _, _ => none
  | j + 1, y0, y1, y2, y3, y4 =>
  bif (decide (y3 < y2)) then
  if (0 ≤ y3) ∧ (y3 < (↑y1.length : Int)) then
  bif (! (y1.getD y3.toNat T0.dflt).2.2) then
  if ((f_u27 k y0 (y1.getD y3.toNat T0.dflt).1 (IntKind.i64.wrap ((y1.getD y3.toNat T0.dflt).1 + (y1.getD y3.toNat T0.dflt).2.1)) y4).isSome = true) then
  f_u19_16 k j y0 y1 y2 ((IntKind.i64.wrap (y3 + 1))) ((v_u27 k y0 (y1.getD y3.toNat T0.dflt).1 (IntKind.i64.wrap ((y1.getD y3.toNat T0.dflt).1 + (y1.getD y3.toNat T0.dflt).2.1)) y4))
  else none
  else
  if ((f_u28 k y0 (IntKind.i64.wrap (IntKind.i64.wrap ((y1.getD y3.toNat T0.dflt).1 - (y1.getD y3.toNat T0.dflt).2.1) + 1)) (IntKind.i64.wrap ((y1.getD y3.toNat T0.dflt).1 + 1)) []).isSome = true) then
  if ((f_u33 k (v_u28 k y0 (IntKind.i64.wrap (IntKind.i64.wrap ((y1.getD y3.toNat T0.dflt).1 - (y1.getD y3.toNat T0.dflt).2.1) + 1)) (IntKind.i64.wrap ((y1.getD y3.toNat T0.dflt).1 + 1)) []) y4).isSome = true) then
  f_u19_16 k j y0 y1 y2 ((IntKind.i64.wrap (y3 + 1))) ((v_u33 k (v_u28 k y0 (IntKind.i64.wrap (IntKind.i64.wrap ((y1.getD y3.toNat T0.dflt).1 - (y1.getD y3.toNat T0.dflt).2.1) + 1)) (IntKind.i64.wrap ((y1.getD y3.toNat T0.dflt).1 + 1)) []) y4))
  else none
  else none
  else none
  else
  bif (Sum.isLeft (v_u26 k y4)) then
  if ((f_u26 k y4).isSome = true) then
  some (([], vA_u26 k y4))
  else none
  else
  if ((f_u26 k y4).isSome = true) then
  some ((y4, vB_u26 k y4))
  else none
end
def f_u19 (k : Nat) (inner_ : List (T0).T) (outer_ : List (T0).T) : Option R_u19 :=
  if ((f_u18 k inner_).isSome = true) then
  bif (v_u18 k inner_ != (0 : Int)) then
  some (([], v_u18 k inner_))
  else
  if ((f_u18 k outer_).isSome = true) then
  bif (v_u18 k outer_ != (0 : Int)) then
  some (([], v_u18 k outer_))
  else
  if ((f_u31 k outer_).isSome = true) then
  f_u19_9 k k inner_ outer_ ((v_u31 k outer_)) inner_ ((↑inner_.length : Int)) 0
  else none
  else none
  else none
def v_u19 (k : Nat) (inner_ : List (T0).T) (outer_ : List (T0).T) : R_u19 := (f_u19 k inner_ outer_).getD ([], 0)
def ke_u19 (k : Nat) : Ke := (65, fun xs => match xs with
  | [_, _] => some [false, false]
  | _ => none, fun xs bs => match xs, bs with
  | [.r (.ro tinner__ qinner_), .r (.ro touter__ qouter_)], [] => (castL tinner__ T0 qinner_).bind fun inner_ => (castL touter__ T0 qouter_).bind fun outer_ => some (.one (res_u19 (v_u19 k inner_ outer_), bo_u19 inner_ outer_ (v_u19 k inner_ outer_)))
  | _, _ => none)
def K_u19 (k : Nat) : Calld := mkK [ke_u18 k, ke_u31 k, ke_u29 k, ke_u25 k, ke_u27 k, ke_u20 k, ke_u28 k, ke_u33 k, ke_u26 k]
def cs_u19 : List (Nat × List Cmd) := [(9, [.autoB [0, 1, 8, 27, 28, 29] false []]), (16, [.autoB [1, 11, 44, 45, 46] false []])]
abbrev E_u19 (inner_ : List (T0).T) (outer_ : List (T0).T) (todo : List Item) (st : St) (o : Option R_u19) : Prop := ∀ r, o = some r → Ev Tryz.prog Tryz.f65 0 todo st (res_u19 r) (bo_u19 inner_ outer_ r)
theorem ev_u19 (k : Nat) (inner_ : List (T0).T) (outer_ : List (T0).T) : ∀ j, (∀ (y0 : List (T0).T) (y1 : List (T0).T) (y2 : Int) (y3 : List (T0).T) (y4 : Int) (y5 : Int), E_u19 inner_ outer_ (placeAt Tryz.f65 9) (st_u19_9 y0 y1 y2 y3 y4 y5) (f_u19_9 k j y0 y1 y2 y3 y4 y5)) ∧ (∀ (y0 : List (T0).T) (y1 : List (T0).T) (y2 : Int) (y3 : Int) (y4 : List (T0).T), E_u19 inner_ outer_ (placeAt Tryz.f65 16) (st_u19_16 y0 y1 y2 y3 y4) (f_u19_16 k j y0 y1 y2 y3 y4))
  | 0 => ⟨fun _ _ _ _ _ _ _ h => (nomatch h), fun _ _ _ _ _ _ h => (nomatch h)⟩
  | j + 1 => by
    have ih := @ev_u19 k inner_ outer_ j
    refine ⟨?_, ?_⟩
    · intro y0 y1 y2 y3 y4 y5 r h
      rw [f_u19_9] at h
      exact go (K_u19 k) [] cs_u19 [.frz 4 false (RTy.list T0), .autoB [4, 5] true []] (gT h (fun c h => gN2 h fun h => gN1 h (fun q => cc_u29 q) fun h => gT h (fun c h => gL h) fun c h => gC h 9 (ih.1 _ _ _ _ _ _ _)) fun c h => gC h 16 (ih.2 _ _ _ _ _ _)) (by kernel_rfl)
    · intro y0 y1 y2 y3 y4 r h
      rw [f_u19_16] at h
      exact go (K_u19 k) [] cs_u19 [.frz 4 false (RTy.list T0), .autoB [4, 5] true []] (gT h (fun c h => gN2 h fun h => gT h (fun c h => gN1 h (fun q => cc_u27 q) fun h => gC h 16 (ih.2 _ _ _ _ _ _)) fun c h => gN1 h (fun q => cc_u28 q) fun h => gN1 h (fun q => cc_u33 q) fun h => gC h 16 (ih.2 _ _ _ _ _ _)) fun c h => gT h (fun c h => gN1 h (fun q => ccA_u26 q (by assumption)) fun h => gL h) fun c h => gN1 h (fun q => ccB_u26 q (by assumption)) fun h => gL h) (by kernel_rfl)
theorem of_u19 (k : Nat) (inner_ : List (T0).T) (outer_ : List (T0).T) (r : R_u19) (h : f_u19 k inner_ outer_ = some r) : C_u19 inner_ outer_ r := by
  refine CC.of (fn := Tryz.f65) (by kernel_rfl) (by kernel_rfl) (by kernel_rfl) (by kernel_rfl) ?_
  unfold f_u19 at h
  exact go (K_u19 k) [] cs_u19 [.frz 4 false (RTy.list T0), .autoB [4, 5] true []] (gN1 h (fun q => cc_u18 q) fun h => gT h (fun c h => gL h) fun c h => gN1 h (fun q => cc_u18 q) fun h => gT h (fun c h => gL h) fun c h => gN1 h (fun q => cc_u31 q) fun h => gC h 9 ((ev_u19 k inner_ outer_ k).1 _ _ _ _ _ _ _)) (by kernel_rfl)
theorem cc_u19 {k : Nat} {inner_ : List (T0).T} {outer_ : List (T0).T} (h : (f_u19 k inner_ outer_).isSome = true) : C_u19 inner_ outer_ (v_u19 k inner_ outer_) := ccG (Φ := C_u19 inner_ outer_) h (of_u19 k inner_ outer_)
abbrev R_u30 : Type := T15.T
def res_u30 (r : R_u30) : AV := .agg (rvs (enc T15 r))
def bo_u30 (r_ : T0.T) (r : R_u30) : List (Nat × Blk) := []
def args_u30 (r_ : T0.T) : List AV := [.agg (rvs (enc T0 r_))]
def bin_u30 (r_ : T0.T) : List Blk := []
abbrev C_u30 (r_ : T0.T) (r : R_u30) : Prop := CC Tryz.prog 44 (args_u30 r_) (bin_u30 r_) (res_u30 r) (bo_u30 r_ r)
def f_u30 (k : Nat) (r_ : T0.T) : Option R_u30 :=
  if ((f_u29 k r_ (IntKind.i64.wrap (r_.2.1 - 1))).isSome = true) then
  some ((if v_u29 k r_ (IntKind.i64.wrap (r_.2.1 - 1)) < r_.1 then v_u29 k r_ (IntKind.i64.wrap (r_.2.1 - 1)) else r_.1, IntKind.i64.wrap ((if v_u29 k r_ (IntKind.i64.wrap (r_.2.1 - 1)) > r_.1 then v_u29 k r_ (IntKind.i64.wrap (r_.2.1 - 1)) else r_.1) + 1)))
  else none
def v_u30 (k : Nat) (r_ : T0.T) : R_u30 := (f_u30 k r_).getD (T15).dflt
def ke_u30 (k : Nat) : Ke := (44, fun xs => match xs with
  | [_] => some [false]
  | _ => none, fun xs bs => match xs, bs with
  | [.agg qr_], [] => (decS [] T0 qr_).bind fun r_ => some (.one (res_u30 (v_u30 k r_), bo_u30 r_ (v_u30 k r_)))
  | _, _ => none)
theorem of_u30 (k : Nat) (r_ : T0.T) (r : R_u30) (h : f_u30 k r_ = some r) : C_u30 r_ r := by
  refine CC.of (fn := Tryz.f44) (by kernel_rfl) (by kernel_rfl) (by kernel_rfl) (by kernel_rfl) ?_
  unfold f_u30 at h
  exact go (mkK [ke_u29 k]) [] [] [.autoB [2] true []] (gN1 h (fun q => cc_u29 q) fun h => gL h) (by kernel_rfl)
theorem cc_u30 {k : Nat} {r_ : T0.T} (h : (f_u30 k r_).isSome = true) : C_u30 r_ (v_u30 k r_) := ccG (Φ := C_u30 r_) h (of_u30 k r_)
abbrev R_u109 : Type := Bool
def res_u109 (r : R_u109) : AV := .r (.v (.bool r))
def bo_u109 (a_ : Bool) (b_ : Bool) (r : R_u109) : List (Nat × Blk) := []
def args_u109 (a_ : Bool) (b_ : Bool) : List AV := [.r (.v (.bool a_)), .r (.v (.bool b_))]
def bin_u109 (a_ : Bool) (b_ : Bool) : List Blk := []
abbrev C_u109 (a_ : Bool) (b_ : Bool) (r : R_u109) : Prop := CC Tryz.prog 68 (args_u109 a_ b_) (bin_u109 a_ b_) (res_u109 r) (bo_u109 a_ b_ r)
def f_u109 (k : Nat) (a_ : Bool) (b_ : Bool) : Option R_u109 :=
  some a_
def v_u109 (k : Nat) (a_ : Bool) (b_ : Bool) : R_u109 := (f_u109 k a_ b_).getD false
def ke_u109 (k : Nat) : Ke := (68, fun xs => match xs with
  | [_, _] => some [false, false]
  | _ => none, fun xs bs => match xs, bs with
  | [.r (.v (.bool a_)), .r (.v (.bool b_))], [] => some (.one (res_u109 (v_u109 k a_ b_), bo_u109 a_ b_ (v_u109 k a_ b_)))
  | _, _ => none)
theorem of_u109 (k : Nat) (a_ : Bool) (b_ : Bool) (r : R_u109) (h : f_u109 k a_ b_ = some r) : C_u109 a_ b_ r := by
  refine CC.of (fn := Tryz.f68) (by kernel_rfl) (by kernel_rfl) (by kernel_rfl) (by kernel_rfl) ?_
  unfold f_u109 at h
  exact go (mkK []) [] [] [.autoB [4] true []] (gL h) (by kernel_rfl)
theorem cc_u109 {k : Nat} {a_ : Bool} {b_ : Bool} (h : (f_u109 k a_ b_).isSome = true) : C_u109 a_ b_ (v_u109 k a_ b_) := ccG (Φ := C_u109 a_ b_) h (of_u109 k a_ b_)
abbrev R_u107 : Type := Int
def res_u107 (r : R_u107) : AV := .r (.v (.int .i64 r))
def bo_u107 (l_ : List (T15).T) (r : R_u107) : List (Nat × Blk) := []
def args_u107 (l_ : List (T15).T) : List AV := [.r (.ro T15 l_)]
def bin_u107 (l_ : List (T15).T) : List Blk := []
abbrev C_u107 (l_ : List (T15).T) (r : R_u107) : Prop := CC Tryz.prog 91 (args_u107 l_) (bin_u107 l_) (res_u107 r) (bo_u107 l_ r)
def st_u107_4 (y0 : List (T15).T) (y1 : Int) (y2 : Int) : St := ⟨mkS 30 [(8, .r (.ro T15 y0)), (9, .r (.v (.int .i64 y1))), (10, .r (.v (.int .i64 y2)))], []⟩
def f_u107_4 (k : Nat) : Nat → List (T15).T → Int → Int → Option R_u107
  | 0, _, _, _ => none
  | j + 1, y0, y1, y2 =>
  bif (decide (y2 < y1)) then
  if (0 ≤ y2) ∧ (y2 < (↑y0.length : Int)) then
  bif (decide ((y0.getD y2.toNat T15.dflt).1 < (0 : Int)) || decide ((y0.getD y2.toNat T15.dflt).1 > (y0.getD y2.toNat T15.dflt).2) || decide ((y0.getD y2.toNat T15.dflt).2 > (17179869184 : Int))) then
  some 1
  else
  f_u107_4 k j y0 y1 ((IntKind.i64.wrap (y2 + 1)))
  else none
  else
  some 0
def f_u107 (k : Nat) (l_ : List (T15).T) : Option R_u107 :=
  bif (decide ((↑l_.length : Int) > (256 : Int))) then
  some 8
  else
  f_u107_4 k k l_ ((↑l_.length : Int)) 0
def v_u107 (k : Nat) (l_ : List (T15).T) : R_u107 := (f_u107 k l_).getD 0
def ke_u107 (k : Nat) : Ke := (91, fun xs => match xs with
  | [_] => some [false]
  | _ => none, fun xs bs => match xs, bs with
  | [.r (.ro tl__ ql_)], [] => (castL tl__ T15 ql_).bind fun l_ => some (.one (res_u107 (v_u107 k l_), bo_u107 l_ (v_u107 k l_)))
  | _, _ => none)
def cs_u107 : List (Nat × List Cmd) := [(4, [.autoB [8, 9, 10] false []])]
abbrev E_u107 (l_ : List (T15).T) (todo : List Item) (st : St) (o : Option R_u107) : Prop := ∀ r, o = some r → Ev Tryz.prog Tryz.f91 0 todo st (res_u107 r) (bo_u107 l_ r)
theorem ev_u107 (k : Nat) (l_ : List (T15).T) : ∀ j, (∀ (y0 : List (T15).T) (y1 : Int) (y2 : Int), E_u107 l_ (placeAt Tryz.f91 4) (st_u107_4 y0 y1 y2) (f_u107_4 k j y0 y1 y2))
  | 0 => fun _ _ _ _ h => (nomatch h)
  | j + 1 => by
    have ih := @ev_u107 k l_ j
    · intro y0 y1 y2 r h
      rw [f_u107_4] at h
      exact go (mkK []) [] cs_u107 [.autoB [2] true []] (gT h (fun c h => gN2 h fun h => gT h (fun c h => gL h) fun c h => gC h 4 (ih _ _ _ _)) fun c h => gL h) (by kernel_rfl)
theorem of_u107 (k : Nat) (l_ : List (T15).T) (r : R_u107) (h : f_u107 k l_ = some r) : C_u107 l_ r := by
  refine CC.of (fn := Tryz.f91) (by kernel_rfl) (by kernel_rfl) (by kernel_rfl) (by kernel_rfl) ?_
  unfold f_u107 at h
  exact go (mkK []) [] cs_u107 [.autoB [2] true []] (gT h (fun c h => gL h) fun c h => gC h 4 ((ev_u107 k l_ k) _ _ _ _)) (by kernel_rfl)
theorem cc_u107 {k : Nat} {l_ : List (T15).T} (h : (f_u107 k l_).isSome = true) : C_u107 l_ (v_u107 k l_) := ccG (Φ := C_u107 l_) h (of_u107 k l_)

end
end Go.AM
namespace Go.AM
open Go

end Go.AM
namespace Go.AM
open Go Go.Proofs Go.Shelf Go.RowKit Go.Lib
variable {P : Program} {ρ : Ren}

/-- the memory has grown, and what lay there lies as it lay -/
structure Ext (w w' : World) : Prop where
  grew : Grew w w'
  frame : ∀ B, B < w.heap.size → w'.heap[B]? = w.heap[B]?
theorem Ext.refl (w : World) : Ext w w := ⟨.refl w, fun _ _ => rfl⟩
theorem Ext.trans {a b c : World} (h : Ext a b) (k : Ext b c) : Ext a c := ⟨h.grew.trans k.grew, fun B hB => (k.frame B (Nat.lt_of_lt_of_le hB h.grew.size)).trans (h.frame B hB)⟩
theorem Ext.turn {w W : World} (h : Ext w W) {B : Nat} (hB : w.heap.size ≤ B) (o : Obj) : Ext w { W with heap := W.heap.setIfInBounds B o } :=
  ⟨⟨by simpa using h.grew.size, h.grew.os, h.grew.out⟩, fun C hC => by
    show (W.heap.setIfInBounds B o)[C]? = _
    rw [Array.getElem?_setIfInBounds_ne (by omega)]
    exact h.frame C hC⟩

end Go.AM
namespace Go.AM
open Go Go.Proofs Go.Shelf Go.RowKit

section
variable {P : Program}
/-- nothing came in by reference; one block comes out -/
theorem mem_one {cx : Cx} {env : Env} {b : Blk} {h : Value} {w' : World} (hn : ∀ n, env n = none) (hh : ∀ n, ¬ cx.hid n) (hent : ∀ nm h, cx.ent nm = some h ↔ env nm = some (0, h))
    (hg : Grew cx.w0 w') (hfr : ∀ B, B < cx.w0.heap.size → w'.heap[B]? = cx.w0.heap[B]?) (hb : ∀ B, hblk h = some B → cx.w0.heap.size ≤ B ∧ B < w'.heap.size)
    (hr : RepB w' (okOf cx (env.put 0 0 h) w') (env.put 0 0 h) h b) : Mem cx (numB 0 [(0, b)]) w' (env.put 0 0 h) := by
  have nent : ∀ nm h0, cx.ent nm = some h0 → False := fun nm h0 e => by
    have := (hent nm h0).1 e
    rw [hn] at this; cases this
  have hput : ∀ nm v x, env.put 0 0 h nm = some (v, x) → nm = 0 ∧ v = 0 ∧ x = h := fun nm v x e => by
    unfold Env.put at e
    split at e
    · rename_i hn
      simp at e
      exact ⟨hn, e.1.symm, e.2.symm⟩
    · rw [hn] at e; cases e
  refine ⟨fun nm ver b' e => ?_, fun nm e _ => ?_, fun nm h => absurd h (hh nm), fun nm nm' v v' h h' B e e' _ _ => ?_, fun nm v h' B e hq => ?_, hg, fun B hB _ => hfr B hB, fun nm h h0 _ e0 => (nent nm h0 e0).elim, fun nm h0 e0 => (nent nm h0 e0).elim⟩
  · have hn : nm = 0 ∧ ver = 0 ∧ b' = b := by
      simp only [numB, getB] at e
      cases hq : Nat.beq 0 nm <;> simp only [hq, cond_true, cond_false] at e
      · cases e
      · have := Nat.eq_of_beq_eq_true hq
        simp at e
        exact ⟨this.symm, e.1.symm, e.2.symm⟩
    obtain ⟨rfl, rfl, rfl⟩ := hn
    exact ⟨h, by simp [Env.put], hr⟩
  · unfold Env.put
    split
    · rename_i hn
      subst hn
      simp [numB, getB] at e
    · exact hn nm
  · rw [(hput _ _ _ e).1, (hput _ _ _ e').1]
  · obtain ⟨rfl, rfl, rfl⟩ := hput _ _ _ e
    exact ⟨.inl (hb B hq).1, (hb B hq).2⟩

/-- a row of one's own, as the kit tells it -/
theorem repB_of_owns {w : World} {ok : Nat → Prop} {env : Env} {base : Nat} {e : TypeId} {τ : RTy} {l : List τ.T} {v : Value} {us : List Value} (hpos : 0 < τ.sz) (h : w.ownsRow base e τ.sz v l.length us) (hu : All2 (RepR w ok) us (encL τ l)) : RepB w ok env v (.row e τ l) ∧ ∀ B, hblk v = some B → base ≤ B ∧ B < w.heap.size := by
  obtain ⟨hl, ⟨rfl, h0⟩ | ⟨g, cap, cur, rfl, hg, hh, hcap, hmx, hs, ht⟩⟩ := h
  · have : l = [] := List.length_eq_zero_iff.1 h0
    subst this
    exact ⟨.rowNil _ _ _, fun B hB => by simp [hblk] at hB⟩
  · by_cases hc : cap = 0
    · have hl0 : l.length = 0 := by omega
      have : l = [] := List.length_eq_zero_iff.1 hl0
      subst this; subst hc
      exact ⟨.rowNil _ _ _, fun B hB => by simp [hblk] at hB⟩
    · refine ⟨.row g e τ l cap cur hh hcap (by omega) hmx hs fun k hk => ?_, fun B hB => ?_⟩
      · have := hu.get Go.undef .undef k (by rw [encL_length]; exact hk)
        rw [← ht] at this
        simpa [List.getElem?_take, hk] using this
      · rw [hblk_sl (by omega)] at hB
        simp at hB; subst hB
        exact ⟨hg, (Array.getElem?_eq_some_iff.1 hh).1⟩

open Go.RowKit Go.Lib in
set_option maxHeartbeats 2000000 in
set_option maxRecDepth 100000 in
/-- Clone of a slice of no elements, wherever it stands -/
theorem clone_empty {ρ : Ren} (L : SlLaysE0.n41 P ρ) (i0 : TypeInfo) (z : Value) (size bytes : Nat) (hi : P.info? (ρ.t 23) = some i0) (hz0 : i0.zero = some z) (hz1 : i0.size = size) (hz2 : i0.bytes = bytes) (hzs : z.cells.size = size) (hsz : 0 < size)
    (z23 : ∀ w, (Go.sizeOf (ρ.t 23)).run P w = .ok size w) (ad : Addr) (c : Nat) (w : World) :
    Calls P (ρ.f 41) #[.slice (some ad) 0 c] w fun e w' => ∃ v', e = .returned v' ∧ w'.ownsRow w.heap.size (ρ.t 23) size v' 0 [] ∧ Below w.heap.size w w' := by
  have mixed := L.mixed; have t4 := L.t4; have a4 := L.a4; have z4 := L.z4; have v4 := L.v4; have t22 := L.t22; have a22 := L.a22; have z22 := L.z22; have v22 := L.v22
  have q22 : ∀ (w : World) (a : Option Addr) (n c n' c' : Nat), (binOp .eql (ρ.t 22) (.slice a n c) (.slice none n' c')).run P w = .ok (.bool a.isNone) w := fun w a n c n' c' => Lib.run_eql_slice_nil w _ _ a n c n' c' L.t22
  have u22 : ∀ w, Sem.run P (underlying (ρ.t 22)) w = .ok (TypeDesc.slice (ρ.t 23)) w := run_underlying t22
  obtain ⟨_, _, FG⟩ := L.f41
  go_enter FG, SlBodyN.n41_ntmps ρ
  go_wp2_with (at_builtin; refine wpList_append_own _ rfl _ _ (ρ.t 22) rfl w.heap.size (ρ.t 23) i0 z size bytes t22 hi hz0 hz1 hz2 hzs hsz _ _ _ rfl (World.ownsRow_made w #[] 0 (Nat.le_refl _) (Nat.zero_le _) (by simp)) ad 0 c [] rfl ?qc1 ?qc2 ?qc3 ?qc4 ?qc5 ?qc6 ?_)
  case qc1 => simp
  case qc2 => intro j u hj; simp at hj
  case qc3 => intro u hu; simp at hu
  case qc4 => simp [maxLen]
  case qc5 => simp
  case qc6 => simp
  intro v' w1 hown hgrow hnil
  go_wp2
  go_ret
  refine ⟨v', rfl, by simpa using hown, ?_⟩
  exact ((Below.refl _ w).alloc (Nat.le_refl _) _).grown hgrow (by simp) (by intro k hk; simp [Value.ownBlock] at hk; omega)

theorem cc_clone [GT P] {ρ : Ren} (L : SlLaysE0.n41 P ρ) {τ : RTy} {i0 : TypeInfo} {z : Value} (hi : P.info? (ρ.t 23) = some i0) (hz0 : i0.zero = some z) (hz1 : i0.size = τ.sz) (hzs : z.cells.size = τ.sz) (hpos : 0 < τ.sz) (hby : 0 < i0.bytes) (z23 : ∀ w, (Go.sizeOf (ρ.t 23)).run P w = .ok τ.sz w)
    (hf : ∃ fn c, P.funcs[ρ.f 41]? = some fn ∧ fn.body = some c ∧ (fn.name == "runtime.NumGoroutine") = false) (l : List τ.T) (hbig : l.length * i0.bytes ≤ 140737488355328) : CC P (ρ.f 41) [.r (.ro τ l)] [] (.own 0 0) [(0, .row (ρ.t 23) τ l)] := by
  refine ⟨hf, fun cx env vs hwf hG hh hent hm hs hargs => ?_⟩
  have none : ∀ n, env n = none := fun n => hm.dom n rfl (hh n)
  have hvs : vs = #[vs.getD 0 Go.undef] := by
    refine Array.ext (by rw [hs]; rfl) fun i hi1 hi2 => ?_
    have : i = 0 := by simpa using hi2
    subst this
    simp [hi1]
  have hr := hargs 0 (by simp)
  simp only [List.getD_cons_zero] at hr
  rw [hvs]
  generalize vs.getD 0 Go.undef = u at hr
  have hlen : l.length ≤ maxLen := by
    have : l.length ≤ l.length * i0.bytes := Nat.le_mul_of_pos_right _ hby
    unfold maxLen; omega
  have fin : ∀ {v' : Value} {w' : World} {us : List Value}, w'.ownsRow cx.w0.heap.size (ρ.t 23) τ.sz v' l.length us → Below cx.w0.heap.size cx.w0 w' → All2 (RepR cx.w0 (okOf cx env cx.w0)) us (encL τ l) →
      ∃ v env', (Ending.returned v' : Ending) = .returned v ∧ Mem cx (numB 0 [(0, .row (ρ.t 23) τ l)]) w' env' ∧ Rep w' (okOf cx env' w') env' v (.own 0 0) := fun {v' w' us} ho hB hu => by
    have ok' : ∀ B, okOf cx env cx.w0 B → okOf cx (env.put 0 0 v') w' B := fun B ⟨h1, h2, h3⟩ => by
      refine ⟨h1, Nat.lt_of_lt_of_le h2 hB.size, fun nm ver h e q => ?_⟩
      unfold Env.put at e
      split at e
      · simp at e
        obtain ⟨rfl, rfl⟩ := e
        obtain ⟨_, ⟨rfl, _⟩ | ⟨g, cap, cur, rfl, hg, _⟩⟩ := ho
        · simp [hblk] at q
        · cases cap with
          | zero => simp [hblk] at q
          | succ c => simp [hblk] at q; omega
      · rw [none] at e; cases e
    have hu' : All2 (RepR w' (okOf cx (env.put 0 0 v') w')) us (encL τ l) := hu.mono fun _ _ h => h.mono ok' fun B o hB' => cell_of_heap (hB.block B hB'.2.1) o
    obtain ⟨h1, h2⟩ := repB_of_owns (env := env.put 0 0 v') hpos ho hu'
    exact ⟨v', env.put 0 0 v', rfl, mem_one none hh hent ⟨hB.size, hB.os, hB.output⟩ (fun B hB' => hB.block B hB') h2 h1, .own ⟨0, _, by simp [Env.put], Nat.le_refl _, fun _ => rfl⟩⟩
  have nilC : ∀ cap, l = [] → Calls P (ρ.f 41) #[.slice Option.none 0 cap] cx.w0 fun e w' => ∃ v env', e = .returned v ∧ Mem cx (numB 0 [(0, .row (ρ.t 23) τ l)]) w' env' ∧ Rep w' (okOf cx env' w') env' v (.own 0 0) := fun cap h0 => by
    refine (AnyE.slices_Clone_nil L 0 cap cx.w0).mono fun e w' ⟨he, hw⟩ => ?_
    subst hw; subst h0; subst he
    exact fin (us := []) ⟨by simp, .inl ⟨rfl, rfl⟩⟩ (Below.refl _ _) .nil
  have some_ : ∀ (B o cap : Nat) (us : List Value), us.length = l.length * τ.sz → (∀ k, k < l.length * τ.sz → cx.w0.cell? ⟨B, o + k, Option.none⟩ = some (us.getD k Go.undef)) → All2 (RepR cx.w0 (okOf cx env cx.w0)) us (encL τ l) →
      Calls P (ρ.f 41) #[.slice (some ⟨B, o, Option.none⟩) l.length cap] cx.w0 fun e w' => ∃ v env', e = .returned v ∧ Mem cx (numB 0 [(0, .row (ρ.t 23) τ l)]) w' env' ∧ Rep w' (okOf cx env' w') env' v (.own 0 0) := fun B o cap us h1 h2 h3 => by
    refine (AnyE.slices_Clone L i0 z τ.sz i0.bytes hi hz0 hz1 rfl hzs hpos z23 B o l.length cap us cx.w0 h1 hlen hbig (fun j u hu => ?_) (encL_oneCell τ l us h3)).mono fun e w' ⟨v', he, ho, _, hB⟩ => ?_
    · obtain ⟨hj, hv⟩ := List.getElem?_eq_some_iff.1 hu
      rw [h2 j (by omega)]
      simp [hj, hv]
    · subst he
      exact fin ho hB h3
  cases hr with
  | r h =>
    cases h with
    | nil _ a cap =>
      cases a with
      | none => exact nilC cap rfl
      | some a =>
        obtain ⟨B, o, q⟩ := a
        cases q with
        | none => exact some_ B o cap [] (by simp) (fun k hk => by simp at hk) .nil
        | some q =>
          refine (clone_empty L i0 z τ.sz i0.bytes hi hz0 hz1 rfl hzs hpos z23 ⟨B, o, some q⟩ cap cx.w0).mono fun e w' ⟨v', he, ho, hB⟩ => ?_
          subst he
          exact fin ho hB .nil
    | ro _ _ B o cap g hB hcap hc hr =>
      obtain ⟨us, h1, h2, h3⟩ := repR_cells (RepR.ro τ l B o cap g hB hcap hc hr)
      exact some_ B o cap us h1 h2 h3
end
end Go.AM
namespace Go.AM
open Go Go.Proofs Go.Shelf Go.RowKit Go.Sort

def valsL (τ : RTy) : List τ.T → List Value
  | [] => []
  | x :: l => vals τ x ++ valsL τ l
theorem encL_flat {τ : RTy} (hf : τ.flat = true) : ∀ l : List τ.T, encL τ l = (valsL τ l).map .v
  | [] => rfl
  | x :: l => by simp [encL, valsL, rvs_enc_flat τ x hf, encL_flat hf l]
theorem valsL_length {τ : RTy} (hf : τ.flat = true) (l : List τ.T) : (valsL τ l).length = l.length * τ.sz := by
  rw [← encL_length, encL_flat hf]; simp

theorem repR_v_inv' {w : World} {ok : Nat → Prop} {u x : Value} (h : RepR w ok u (.v x)) : u = x := by
  cases h; rfl

section
variable {P : Program}

/-- what a row of one's own may be, to a function that changes it where it stands -/
def InPlace (P : Program) [GT P] (f : FuncId) (τ : RTy) (e : TypeId) (l l' : List τ.T) (ys : List Value) : Prop :=
  (l = [] → ∀ (w : World) (a : Option Addr), GT.G P w → Calls P f (.slice a 0 0 :: ys).toArray w fun en w' => en = .returned (.tuple #[]) ∧ Grew w w' ∧ ∀ B, B < w.heap.size → w'.heap[B]? = w.heap[B]?) ∧
  ∀ (w : World) (B cap : Nat) (cur : Array Value), GT.G P w → w.heap[B]? = some (.cells cur e (0, 0)) → l.length ≤ cap → 0 < cap → cap ≤ maxLen → cur.size = cap * τ.sz → (∀ k, k < l.length * τ.sz → cur.getD k Go.undef = (valsL τ l).getD k Go.undef) →
    Calls P f (.slice (some ⟨B, 0, none⟩) l.length cap :: ys).toArray w fun en w' => en = .returned (.tuple #[]) ∧ Grew w w' ∧ (∀ B', B' < w.heap.size → B' ≠ B → w'.heap[B']? = w.heap[B']?) ∧
      ∃ cur', w'.heap[B]? = some (.cells cur' e (0, 0)) ∧ cur'.size = cur.size ∧ ∀ k, k < l.length * τ.sz → cur'.getD k Go.undef = (valsL τ l').getD k Go.undef

theorem cc_inplace [GT P] {f : FuncId} {τ : RTy} {e : TypeId} {l l' : List τ.T} (hflat : τ.flat = true) (hlen : l'.length = l.length) {xs : List AV} {ys : List Value} (hxl : xs.length = ys.length)
    (hx : ∀ (w : World) (ok : Nat → Prop) (env : Env) (u : Value) (i : Nat), i < xs.length → Rep w ok env u (xs.getD i .undef) → u = ys.getD i Go.undef)
    (hf : ∃ fn c, P.funcs[f]? = some fn ∧ fn.body = some c ∧ (fn.name == "runtime.NumGoroutine") = false) (h : InPlace P f τ e l l' ys) :
    CC P f (.own 0 0 :: xs) [.row e τ l] (.tup []) [(0, .row e τ l')] := by
  refine ⟨hf, fun cx env vs hwf hG hh hent hm hs hargs => ?_⟩
  obtain ⟨top, h1, h2, h3, h4⟩ := hG
  have hG := GT.keep _ _ h3 h1
  obtain ⟨u, heu, hrep⟩ := hm.blk 0 0 (.row e τ l) rfl
  have hvs : vs = (u :: ys).toArray := by
    refine Array.ext (by rw [hs]; simp [hxl]) fun i hi hi2 => ?_
    have hi3 : i < xs.length + 1 := by rw [hs] at hi; simpa using hi
    have hr := hargs i (by simpa using hi3)
    cases i with
    | zero =>
      simp only [List.getD_cons_zero] at hr
      have : vs.getD 0 Go.undef = u := by
        generalize vs.getD 0 Go.undef = z at hr
        cases hr with
        | own hR =>
          obtain ⟨cv, x, e1, e2, e3⟩ := hR
          rw [heu] at e1
          simp at e1
          obtain ⟨rfl, rfl⟩ := e1
          exact e3 rfl
      simp [hi] at this
      simpa using this
    | succ i =>
      simp only [List.getD_cons_succ] at hr
      have := hx _ _ _ _ i (by omega) hr
      have hi4 : i < ys.length := by omega
      simp [hi, hi4] at this
      simpa using this
  subst hvs
  have upd : ∀ {w' : World}, Grew cx.w0 w' → (∀ B, B < cx.w0.heap.size → hblk u ≠ some B → w'.heap[B]? = cx.w0.heap[B]?) → RepB w' (okOf cx (env.put 0 0 u) w') (env.put 0 0 u) u (.row e τ l') →
      ∃ v env', (Ending.returned (.tuple #[]) : Ending) = .returned v ∧ Mem cx (numB 0 [(0, .row e τ l')]) w' env' ∧ Rep w' (okOf cx env' w') env' v (.tup []) := fun {w'} hg hk hr => by
    have T := mem_upd (ver := 0) (b := .row e τ l') hm (hh 0) ⟨⟨.inr ⟨0, u, heu, .inr ⟨rfl, rfl⟩⟩, hg, fun B hB hq => hk B hB (hq 0 u heu), fun B q => .inr ⟨0, u, heu, q⟩⟩, hr⟩
    exact ⟨_, _, rfl, T.mem, .tup _ _ rfl fun i hi => by simp at hi⟩
  generalize hb : Blk.row e τ l = b at hrep
  cases hrep with
  | rowNil _ _ a =>
    cases hb
    refine (h.1 rfl cx.w0 a hG).mono fun en w' ⟨he, hg, hk⟩ => ?_
    subst he
    refine upd hg (fun B hB _ => hk B hB) ?_
    have : l' = [] := List.length_eq_zero_iff.1 hlen
    subst this
    exact .rowNil _ _ _
  | row B _ _ _ cap cur hB hcap h0 hmx hsz hc =>
    cases hb
    refine (h.2 cx.w0 B cap cur hG hB hcap h0 hmx hsz fun k hk => ?_).mono fun en w' ⟨he, hg, hk, cur', hB', hs', hc'⟩ => ?_
    · have := hc k hk
      rw [encL_flat hflat] at this
      have hk2 : k < (valsL τ l).length := by rw [valsL_length hflat]; exact hk
      have e1 : ((valsL τ l).map RV.v).getD k .undef = .v ((valsL τ l).getD k Go.undef) := by simp [hk2]
      rw [e1] at this
      exact repR_v_inv' this
    · subst he
      have hhb : hblk (.slice (some ⟨B, 0, none⟩) l.length cap) = some B := hblk_sl h0
      refine upd hg (fun B' hB2 hq => hk B' hB2 fun q => hq (by rw [hhb, q])) ?_
      have R := RepB.row (env := env.put 0 0 (.slice (some ⟨B, 0, none⟩) l.length cap)) (ok := okOf cx (env.put 0 0 (.slice (some ⟨B, 0, none⟩) l.length cap)) w') B e τ l' cap cur' hB' (by omega) h0 hmx (by rw [hs', hsz]) fun k hk => by
        rw [hlen] at hk
        rw [hc' k hk, encL_flat hflat]
        have hk2 : k < (valsL τ l').length := by rw [valsL_length hflat, hlen]; exact hk
        simp [hk2]
        exact .v _
      rw [hlen] at R
      exact R
  | _ => cases hb

theorem cell_holds {w : World} {B : Nat} {cur : Array Value} {e : TypeId} (hB : w.heap[B]? = some (.cells cur e (0, 0))) {F : Array Value} (hs : F.size ≤ cur.size) (h : ∀ k, k < F.size → cur.getD k Go.undef = F.getD k Go.undef) : Holds id w B 0 F := fun j hj => by
  have hj2 : j < cur.size := by omega
  refine ⟨?_, ?_⟩
  · have := h j hj
    simp [hj, hj2] at this
    unfold World.cell?
    simp [hB, hj2, this, hj]
  · unfold World.frozen?
    simp [hB]

theorem putRow_block {w : World} {B : Nat} {cur : Array Value} {e : TypeId} (n : Nat) (hB : w.heap[B]? = some (.cells cur e (0, 0))) (F : Array Value) (os : Array Obj) (hs : F.size ≤ cur.size) :
    let w' := grow (putRow id (Sort.ahead w n) B 0 F) os
    Grew w w' ∧ (∀ B', B' < w.heap.size → B' ≠ B → w'.heap[B']? = w.heap[B']?) ∧ ∃ cur', w'.heap[B]? = some (.cells cur' e (0, 0)) ∧ cur'.size = cur.size ∧ ∀ k, k < F.size → cur'.getD k Go.undef = F.getD k Go.undef := by
  have hlt : B < w.heap.size := (Array.getElem?_eq_some_iff.1 hB).1
  have hsz : (putRow id (Sort.ahead w n) B 0 F).heap.size = w.heap.size := by simp [putRow, mapBlock, Sort.ahead]
  have hget : ∀ B', B' < w.heap.size → (grow (putRow id (Sort.ahead w n) B 0 F) os).heap[B']? = (w.heap.modify B (onCells (putCells id 0 F)))[B']? := fun B' hB' => by
    show (_ ++ os)[B']? = _
    rw [Array.getElem?_append_left (by rw [hsz]; exact hB')]
    rfl
  refine ⟨⟨?_, rfl, rfl⟩, fun B' hB' hne => ?_, putCells id 0 F cur, ?_, by simp [putCells], fun k hk => ?_⟩
  · show _ ≤ (_ ++ os).size
    simp [hsz]
  · rw [hget B' hB', Array.getElem?_modify]
    simp [Ne.symm hne]
  · rw [hget B hlt, Array.getElem?_modify]
    simp [hB, onCells]
  · have : k < cur.size := by omega
    simp [putCells, this, hk]

/-- slices.Sort at ints -/
theorem cc_sort_int [GT P] {ρ : Ren} (L : Lays.n189 P ρ) (hf : ∃ fn c, P.funcs[ρ.f 189]? = some fn ∧ fn.body = some c ∧ (fn.name == "runtime.NumGoroutine") = false) (e : TypeId) (l : List Int) (hb : l.length < 4611686018427387904) :
    CC P (ρ.f 189) [.own 0 0] [.row e (.int .i64) l] (.tup []) [(0, .row e (.int .i64) (l.mergeSort fun x y => decide (x ≤ y)))] := by
  have hv : ∀ l : List Int, valsL (.int .i64) l = l.map (Value.int .i64) := fun l => by
    induction l with
    | nil => rfl
    | cons x l ih => simp [valsL, vals, ih]
  refine cc_inplace (τ := .int .i64) (e := e) (l := l) (xs := []) (ys := []) rfl (List.length_mergeSort l) rfl (fun _ _ _ _ i hi => by simp at hi) hf ⟨fun _ w a _ => ?_, fun w B cap cur hG hB hcap h0 hmx hsz hc => ?_⟩
  · refine (Any.slices_Sort_int_none L a 0 w).mono fun en w' ⟨he, hw⟩ => ⟨he, ?_⟩
    subst hw
    exact ⟨Grew.refl _, fun _ _ => rfl⟩
  · have hsz' : cur.size = cap := by rw [hsz]; simp [RTy.sz]
    have hF : Holds (Value.int .i64) w B 0 l.toArray := fun j hj => by
      have hj : j < l.length := by simpa using hj
      have := (cell_holds hB (F := (l.map (Value.int .i64)).toArray) (by simp; omega) fun k hk => by
        have hk : k < l.length := by simpa using hk
        have := hc k (by simpa [RTy.sz] using hk)
        rw [hv] at this
        simpa using this) j (by simpa using hj)
      simpa [hj] using this
    refine (Any.slices_Sort_int L B 0 cap l w hF (Array.getElem?_eq_some_iff.1 hB).1 hb).mono fun en w' ⟨he, n, os, hw⟩ => ⟨he, ?_⟩
    have e0 : ∀ m : List Int, putRow (Value.int .i64) (Sort.ahead w n) B 0 m.toArray = putRow id (Sort.ahead w n) B 0 (m.map (Value.int .i64)).toArray := fun m => by
      unfold putRow
      congr 1
      funext c
      unfold putCells
      refine Array.ext (by simp) fun i h1 h2 => ?_
      by_cases q : i < m.length
      · simp [q]
      · simp [q]
    rw [e0] at hw
    subst hw
    have := putRow_block n hB ((l.mergeSort fun x y => decide (x ≤ y)).map (Value.int .i64)).toArray os (by simp; omega)
    refine ⟨this.1, this.2.1, ?_⟩
    obtain ⟨cur', h1, h2, h3⟩ := this.2.2
    refine ⟨cur', h1, h2, fun k hk => ?_⟩
    rw [h3 k (by simpa [RTy.sz] using hk), hv]
    simp
end
end Go.AM
namespace Go.AM
open Go Go.Proofs Go.Shelf Go.RowKit Go.Sort
section
variable {P : Program}

theorem flatK_valsL {α : Type} [Inhabited α] {τ : RTy} (hf : τ.flat = true) (dec : α → τ.T) (hpos : 0 < τ.sz) (d : Array α) :
    Sort.flatK (fun a => vals τ (dec a)) τ.sz d = (valsL τ (d.toList.map dec)).toArray := by
  have hl : ∀ (l : List α) (j i : Nat), j < l.length → i < τ.sz → (valsL τ (l.map dec)).getD (j * τ.sz + i) Go.undef = (vals τ (dec (l.getD j default))).getD i Go.undef := fun l => by
    induction l with
    | nil => intro j i h; simp at h
    | cons x l ih =>
      intro j i hj hi
      have hv := vals_length τ (dec x) hf
      cases j with
      | zero => simp [valsL, List.getElem?_append, hv, hi]
      | succ j =>
        have := ih j i (by simpa using hj) hi
        have e1 : (j + 1) * τ.sz + i - τ.sz = j * τ.sz + i := by rw [Nat.succ_mul]; omega
        have e2 : ¬ (j + 1) * τ.sz + i < τ.sz := by rw [Nat.succ_mul]; omega
        simpa [valsL, List.getElem?_append, hv, e1, e2] using this
  refine ext_get! (by simp [Sort.size_flatK, valsL_length hf]) fun t ht => ?_
  have ht' : t < d.size * τ.sz := by simpa using ht
  rw [Sort.get_flatK _ _ _ _ ht']
  have hd : t / τ.sz < d.size := Nat.div_lt_of_lt_mul (by rw [Nat.mul_comm]; exact ht')
  have := hl d.toList (t / τ.sz) (t % τ.sz) (by simpa using hd) (Nat.mod_lt _ hpos)
  rw [Nat.mul_comm, Nat.div_add_mod] at this
  have h2 : t < (valsL τ (d.toList.map dec)).length := by rw [valsL_length hf]; simpa using ht'
  have h3 : t % τ.sz < (vals τ (dec (d.toList.getD (t / τ.sz) default))).length := by rw [vals_length _ _ hf]; exact Nat.mod_lt _ hpos
  have e4 : d[t / τ.sz]! = d.toList.getD (t / τ.sz) default := by simp [hd]
  rw [e4, getElem!_pos (valsL τ (d.toList.map dec)).toArray t (by simpa using h2)]
  show (vals τ (dec (d.toList.getD (t / τ.sz) default)))[t % τ.sz]! = _
  rw [getElem!_pos (vals τ (dec (d.toList.getD (t / τ.sz) default))) (t % τ.sz) h3]
  rw [List.getD_eq_getElem?_getD, List.getD_eq_getElem?_getD, List.getElem?_eq_getElem h2, List.getElem?_eq_getElem h3] at this
  simpa using this.symm

/-- slices.SortFunc at structs of plain data -/
theorem cc_sortFunc [GT P] {ρ : Ren} (L : SlLaysF0.n6 P ρ) (hf : ∃ fn c, P.funcs[ρ.f 6]? = some fn ∧ fn.body = some c ∧ (fn.name == "runtime.NumGoroutine") = false) {τ : RTy} (hflat : τ.flat = true) (hpos : 0 < τ.sz)
    (aE : ∀ w, (isAgg (ρ.t 24)).run P w = .ok true w) (zE : ∀ w, (Go.sizeOf (ρ.t 24)).run P w = .ok τ.sz w) (e : TypeId) {α : Type} [Inhabited α] (dec : α → τ.T) (cf : α → α → Int) (hO : SWO (ltOf cf)) (g : Nat)
    (eg : ∀ args w, (callFunc g args).run P w = .ok (.enter g args) w) (hcmp : ∀ blk n w, CmpLays P g #[] (fun a => vals τ (dec a)) τ.sz cf blk 0 n w) (d : Array α) (hsz : d.size < 4611686018427387904) (h1 : ∀ x, ∀ v ∈ vals τ (dec x), v.oneCell' = true) :
    CC P (ρ.f 6) [.own 0 0, .r (.v (.func (.func g) #[] #[]))] [.row e τ (d.toList.map dec)] (.tup []) [(0, .row e τ ((pdq (ltOf cf) d 0 d.size (Lib.bitLen d.size) true true).toList.map dec))] := by
  have hp := pdq_sorts (ltOf cf) hO d 0 d.size (Lib.bitLen d.size) true true (Nat.zero_le _) (Nat.le_refl _) (Or.inl rfl)
  have hps : (pdq (ltOf cf) d 0 d.size (Lib.bitLen d.size) true true).size = d.size := hp.1.1
  refine cc_inplace (τ := τ) (e := e) (xs := [.r (.v (.func (.func g) #[] #[]))]) (ys := [.func (.func g) #[] #[]]) hflat (by simp [hps]) rfl (fun _ _ _ u i hi hr => ?_) hf ⟨fun h0 w a _ => ?_, fun w B cap cur hG hB hcap h0 hmx hs hc => ?_⟩
  · have : i = 0 := by simpa using hi
    subst this
    simp only [List.getD_cons_zero] at hr ⊢
    exact rep_v_inv hr
  · refine (AnyF.slices_SortFunc_none L a 0 _ w).mono fun en w' ⟨he, hw⟩ => ⟨he, ?_⟩
    subst hw
    exact ⟨Grew.refl _, fun _ _ => rfl⟩
  · have hl : (d.toList.map dec).length = d.size := by simp
    rw [hl] at hc hcap ⊢
    have hle : d.size * τ.sz ≤ cur.size := by rw [hs]; exact Nat.mul_le_mul_right _ hcap
    have hF : HoldsK (fun a => vals τ (dec a)) τ.sz w B 0 d := by
      unfold HoldsK
      rw [flatK_valsL hflat dec hpos]
      refine cell_holds hB (by simp [valsL_length hflat]; exact hle) fun k hk => ?_
      have hk : k < d.size * τ.sz := by simpa [valsL_length hflat] using hk
      rw [hc k hk]
      simp
    refine (AnyQ.slices_SortFunc_eq L τ.sz aE zE (fun a => vals τ (dec a)) (fun x => vals_length _ _ hflat) h1 cf hO g #[] B 0 cap d w eg (hcmp _ _ _) hF (Array.getElem?_eq_some_iff.1 hB).1 hsz).mono fun en w' ⟨he, n, os, hw⟩ => ⟨he, ?_⟩
    unfold sortWorldK putRowK at hw
    rw [flatK_valsL hflat dec hpos] at hw
    subst hw
    have hls : (valsL τ ((pdq (ltOf cf) d 0 d.size (Lib.bitLen d.size) true true).toList.map dec)).length = d.size * τ.sz := by rw [valsL_length hflat]; simp [hps]
    have := putRow_block n hB (valsL τ ((pdq (ltOf cf) d 0 d.size (Lib.bitLen d.size) true true).toList.map dec)).toArray os (by simp [hls]; exact hle)
    refine ⟨this.1, this.2.1, ?_⟩
    obtain ⟨cur', h1, h2, h3⟩ := this.2.2
    refine ⟨cur', h1, h2, fun k hk => ?_⟩
    rw [h3 k (by simpa [hls] using hk)]
    simp
end
end Go.AM
namespace Go.AM
open Go Go.Proofs Go.Shelf Go.RowKit Go.Sort
section
variable {P : Program}
/-- plain arguments; a fresh row of one's own comes out -/
theorem cc_fresh [GT P] {f : FuncId} {xs : List Value} {e : TypeId} {τ : RTy} {l : List τ.T} (hf : ∃ fn c, P.funcs[f]? = some fn ∧ fn.body = some c ∧ (fn.name == "runtime.NumGoroutine") = false)
    (h : ∀ w : World, GT.G P w → Calls P f xs.toArray w fun en w' => ∃ v, en = .returned v ∧ Grew w w' ∧ (∀ B, B < w.heap.size → w'.heap[B]? = w.heap[B]?) ∧ (∀ ok env, RepB w' ok env v (.row e τ l)) ∧ ∀ B, hblk v = some B → w.heap.size ≤ B ∧ B < w'.heap.size) :
    CC P f (rvals xs) [] (.own 0 0) [(0, .row e τ l)] := by
  refine ⟨hf, fun cx env vs hwf hG hh hent hm hs hargs => ?_⟩
  obtain ⟨top, h1, h2, h3, h4⟩ := hG
  have hlen : ∀ l : List Value, (rvals l).length = l.length := fun l => by induction l <;> simp [rvals, *]
  have hget : ∀ (l : List Value) (i : Nat), i < l.length → (rvals l).getD i .undef = .r (.v (l.getD i Go.undef)) := fun l => by
    induction l with
    | nil => intro i h; simp at h
    | cons x l ih =>
      intro i h
      cases i with
      | zero => rfl
      | succ i => simpa [rvals] using ih i (by simpa using h)
  have hvs : vs = xs.toArray := by
    refine Array.ext (by rw [hs, hlen]; simp) fun i hi hi2 => ?_
    have hi3 : i < xs.length := by simpa using hi2
    have := hargs i (by rw [hlen]; exact hi3)
    rw [hget xs i hi3] at this
    have := rep_v_inv this
    simpa [hi, hi3] using this
  subst hvs
  have none : ∀ n, env n = none := fun n => hm.dom n rfl (hh n)
  refine (h cx.w0 (GT.keep _ _ h3 h1)).mono fun en w' ⟨v, he, hg, hfr, hr, hb⟩ => ?_
  exact ⟨v, env.put 0 0 v, he, mem_one none hh hent hg hfr hb (hr _ _), .own ⟨0, _, by simp [Env.put], Nat.le_refl _, fun _ => rfl⟩⟩

/-- slices.Grow of nil -/
theorem cc_grow [GT P] {ρ : Ren} (L : Lays8.n4 P ρ) (hf : ∃ fn c, P.funcs[ρ.f 4]? = some fn ∧ fn.body = some c ∧ (fn.name == "runtime.NumGoroutine") = false) (i0 : TypeInfo) (z : Value) (hi0 : P.info? (ρ.t 25) = some i0) (hz0 : i0.zero = some z) (τ : RTy) (hs : i0.size = τ.sz) (hzs : z.cells.size = τ.sz) (hpos : 0 < τ.sz) (hby : 0 < i0.bytes)
    (n : Nat) (hbig : n * i0.bytes ≤ 140737488355328) : CC P (ρ.f 4) [.r (.v (.slice none 0 0)), .r (.v (.int .i64 n))] [] (.own 0 0) [(0, .row (ρ.t 25) τ [])] := by
  have hn : n ≤ 140737488355328 := Nat.le_trans (Nat.le_mul_of_pos_right _ hby) hbig
  refine cc_fresh (xs := [.slice none 0 0, .int .i64 n]) hf fun w _ => ?_
  by_cases h0 : n = 0
  · subst h0
    refine (Any8.slices_Grow_room L none 0 0 0 w (Nat.le_refl _) (by omega) (by omega) (by omega)).mono fun en w' ⟨he, hw⟩ => ?_
    subst hw
    exact ⟨_, he, Grew.refl _, fun _ _ => rfl, fun _ _ => .rowNil _ _ _, fun B hB => by simp [hblk] at hB⟩
  · refine (Any8.slices_Grow_grow L i0 z hi0 hz0 (by omega) none 0 0 n [] w (Nat.le_refl _) (by omega) (by simpa using hbig) (by omega) (by simp) (fun _ => rfl) (fun a ha => by cases ha)).mono fun en w' ⟨he, hw⟩ => ?_
    have hge := grownCap_ge w (0 + n) 0 (ρ.t 25)
    have hm := grownCap_le_maxLen w (0 + n) 0 (ρ.t 25) (by unfold maxLen; omega)
    subst hw
    refine ⟨_, he, ⟨?_, rfl, rfl⟩, fun B hB => ?_, fun ok env => ?_, fun B hB => ?_⟩
    · show w.heap.size ≤ (w.heap.push _).size
      simp
    · show (w.heap.push _)[B]? = _
      rw [Array.getElem?_push]
      simp; omega
    · refine .row w.heap.size (ρ.t 25) τ [] _ _ (heap_alloc_new w.drew _) (Nat.zero_le _) (by omega) hm ?_ fun k hk => by simp at hk
      simp only [Nat.zero_add] at hge ⊢
      simp [size_zeroCells, hzs, ← Nat.add_mul]
      congr 1
      omega
    · rw [hblk_sl (by omega)] at hB
      simp at hB
      subst hB
      refine ⟨Nat.le_refl _, ?_⟩
      show _ < (w.heap.push _).size
      simp
end
end Go.AM
namespace Go.AM
open Go Go.Proofs Go.Shelf Go.RowKit Go.Sort

/-- what is asked of an element's type -/
def elemOk (P : Program) (t : TypeId) (sz b : Nat) : Bool :=
  match P.info? t with
  | some i => match i.zero with
    | some z => Nat.beq i.size sz && (Nat.beq z.cells.size sz && (Nat.beq i.bytes b && (Nat.blt 0 sz && Nat.blt 0 b)))
    | none => false
  | none => false
theorem elemOk_spec {P : Program} {t : TypeId} {sz b : Nat} (h : elemOk P t sz b = true) : ∃ i z, P.info? t = some i ∧ i.zero = some z ∧ i.size = sz ∧ z.cells.size = sz ∧ i.bytes = b ∧ 0 < sz ∧ 0 < b := by
  unfold elemOk at h
  split at h
  · rename_i i hi
    split at h
    · rename_i z hz
      simp only [Bool.and_eq_true] at h
      exact ⟨i, z, hi, hz, Nat.eq_of_beq_eq_true h.1, Nat.eq_of_beq_eq_true h.2.1, Nat.eq_of_beq_eq_true h.2.2.1, Nat.le_of_ble_eq_true h.2.2.2.1, Nat.le_of_ble_eq_true h.2.2.2.2⟩
    · cases h
  · cases h

section
variable {P : Program}
theorem cc_clone' [GT P] {ρ : Ren} (L : SlLaysE0.n41 P ρ) {τ : RTy} {b : Nat} (he : elemOk P (ρ.t 23) τ.sz b = true) (z23 : ∀ w, (Go.sizeOf (ρ.t 23)).run P w = .ok τ.sz w)
    (hf : ∃ fn c, P.funcs[ρ.f 41]? = some fn ∧ fn.body = some c ∧ (fn.name == "runtime.NumGoroutine") = false) (l : List τ.T) (hbig : l.length * b ≤ 140737488355328) : CC P (ρ.f 41) [.r (.ro τ l)] [] (.own 0 0) [(0, .row (ρ.t 23) τ l)] := by
  obtain ⟨i, z, h1, h2, h3, h4, h5, h6, h7⟩ := elemOk_spec he
  subst h5
  exact cc_clone L h1 h2 h3 h4 h6 h7 z23 hf l hbig
theorem cc_grow' [GT P] {ρ : Ren} (L : Lays8.n4 P ρ) (hf : ∃ fn c, P.funcs[ρ.f 4]? = some fn ∧ fn.body = some c ∧ (fn.name == "runtime.NumGoroutine") = false) (τ : RTy) {b : Nat} (he : elemOk P (ρ.t 25) τ.sz b = true)
    (n : Int) (h0 : 0 ≤ n) (hbig : n.toNat * b ≤ 140737488355328) : CC P (ρ.f 4) [.r (.v (.slice none 0 0)), .r (.v (.int .i64 n))] [] (.own 0 0) [(0, .row (ρ.t 25) τ [])] := by
  obtain ⟨i, z, h1, h2, h3, h4, h5, h6, h7⟩ := elemOk_spec he
  subst h5
  obtain ⟨m, rfl⟩ := Int.eq_ofNat_of_zero_le h0
  exact cc_grow L hf i z h1 h2 τ h3 h4 h6 h7 m (by simpa using hbig)

/-- ints that a comparison by difference takes -/
def SmallI (x : Int) : Prop := 0 ≤ x ∧ x ≤ 4611686018427387904
instance (x : Int) : Decidable (SmallI x) := inferInstanceAs (Decidable (_ ∧ _))
abbrev SPair : Type := {x : Int × Int // SmallI x.1}
instance : Inhabited SPair := ⟨⟨(0, 0), by decide⟩⟩
def toSP : List (Int × Int) → List SPair
  | [] => []
  | x :: l => if h : SmallI x.1 then ⟨x, h⟩ :: toSP l else toSP l
theorem toSP_val : ∀ l : List (Int × Int), (∀ x ∈ l, SmallI x.1) → (toSP l).map (·.1) = l
  | [], _ => rfl
  | x :: l, h => by
    have h1 : SmallI x.1 := h x (by simp)
    simp [toSP, h1, toSP_val l fun y hy => h y (by simp [hy])]
def spCmp (x y : SPair) : Int := x.1.1 - y.1.1
theorem spCmp_lt (x y : SPair) : ltOf spCmp x y = decide (x.1.1 < y.1.1) := by
  unfold ltOf spCmp
  by_cases h : x.1.1 < y.1.1
  · rw [decide_eq_true h, decide_eq_true (by omega)]
  · rw [decide_eq_false h, decide_eq_false (by omega)]
theorem spCmp_swo : SWO (ltOf spCmp) where
  irrefl x := by rw [spCmp_lt]; simp
  trans x y z h1 h2 := by rw [spCmp_lt] at *; rw [decide_eq_true_iff] at *; omega
  ntrans x y z h1 h2 := by rw [spCmp_lt] at *; rw [decide_eq_false_iff_not] at *; omega
/-- pairs by their first numbers, as Go's sort lays them -/
def sortSP (l : List (Int × Int)) : List (Int × Int) := (pdq (ltOf spCmp) (toSP l).toArray 0 (toSP l).toArray.size (Lib.bitLen (toSP l).toArray.size) true true).toList.map (·.1)
end

theorem perm_sortSP {l : List (Int × Int)} (h : ∀ x ∈ l, SmallI x.1) : (sortSP l).Perm l := by
  have hp := (pdq_sorts (ltOf spCmp) spCmp_swo (toSP l).toArray 0 (toSP l).toArray.size (Lib.bitLen (toSP l).toArray.size) true true (Nat.zero_le _) (Nat.le_refl _) (Or.inl rfl)).1
  have h3 := hp.2.2
  have e1 : ∀ (d : Array SPair) (n : Nat), d.size = n → d.extract 0 n = d := fun d n hn => by subst hn; exact Array.extract_size
  rw [e1 _ _ hp.1, e1 _ _ rfl] at h3
  have := h3.map (fun x : SPair => x.1)
  unfold sortSP
  refine this.trans ?_
  show (List.map (fun x : SPair => x.1) (toSP l)).Perm l
  rw [toSP_val l h]

theorem sorted_sortSP {l : List (Int × Int)} : (sortSP l).Pairwise fun x y => x.1 ≤ y.1 := by
  have hp := pdq_sorts (ltOf spCmp) spCmp_swo (toSP l).toArray 0 (toSP l).toArray.size (Lib.bitLen (toSP l).toArray.size) true true (Nat.zero_le _) (Nat.le_refl _) (Or.inl rfl)
  have hs := hp.1.1
  have h := hp.2
  unfold sortSP
  generalize pdq (ltOf spCmp) (toSP l).toArray 0 (toSP l).toArray.size (Lib.bitLen (toSP l).toArray.size) true true = d at hs h
  rw [List.pairwise_map, List.pairwise_iff_getElem]
  intro i j hi hj hij
  have := h i j (Nat.zero_le _) hij (by rw [← hs]; simpa using hj)
  have hi' : i < d.size := by simpa using hi
  have hj' : j < d.size := by simpa using hj
  rw [getElem!_pos d i hi', getElem!_pos d j hj'] at this
  rw [spCmp_lt, decide_eq_false_iff_not] at this
  simp only [Array.getElem_toList]
  omega
end Go.AM
/-
  DERIVED: THE SHELF's CONTRACTS AT THIS DUMP, IN PLAIN WORDS (tools/lay-plain.mjs out of 'TryzjShelf.lean', which tools/lay-shelf.mjs wrote): THE SAME DECLARATIONS UNDER THE SAME NAMES: 'import', 'namespace', 'open', 'def', 'theorem' AND NOTHING ELSE: no command of the shelf's: FOR A HAND-IN. Each laying: the table of numbers ('.._ren') and one theorem, a field a fact of the dump's own or the kernel's comparison; each contract: ONE APPLICATION.
-/
namespace Go.Proofs
open Go.Shelf
def Tryz.sort_int_ren : Go.Shelf.Ren := ⟨fun | 189 => 94 | 125 => 110 | 257 => 109 | 128 => 126 | 129 => 127 | 294 => 117 | 295 => 118 | 296 => 119 | 297 => 120 | 298 => 121 | 299 => 122 | 216 => 123 | 300 => 124 | 301 => 125 | 328 => 138 | 329 => 139 | 330 => 140 | 331 => 141 | 332 => 142 | 215 => 143 | 343 => 147 | n => n, fun | 28 => 55 | 3 => 3 | 46 => 130 | 0 => 0 | 51 => 182 | 53 => 184 | 4 => 4 | 183 => 176 | 182 => 175 | 131 => 72 | 5 => 5 | 9 => 9 | 218 => 191 | 222 => 195 | 228 => 199 | 229 => 92 | n => n, fun | n => n⟩
theorem Tryz.sort_int : Go.Proofs.Lays.n189 Tryz.prog Tryz.sort_int_ren := {
  mixed := by kernel_rfl
  f125 := Tryz.func110.trans (congrArg some (by kernel_rfl))
  f128 := Tryz.func126.trans (congrArg some (by kernel_rfl))
  f129 := Tryz.func127.trans (congrArg some (by kernel_rfl))
  f189 := Tryz.func94.trans (congrArg some (by kernel_rfl))
  f215 := Tryz.func143.trans (congrArg some (by kernel_rfl))
  f216 := Tryz.func123.trans (congrArg some (by kernel_rfl))
  f257 := Tryz.func109.trans (congrArg some (by kernel_rfl))
  f294 := Tryz.func117.trans (congrArg some (by kernel_rfl))
  f295 := Tryz.func118.trans (congrArg some (by kernel_rfl))
  f296 := Tryz.func119.trans (congrArg some (by kernel_rfl))
  f297 := Tryz.func120.trans (congrArg some (by kernel_rfl))
  f298 := Tryz.func121.trans (congrArg some (by kernel_rfl))
  f299 := Tryz.func122.trans (congrArg some (by kernel_rfl))
  f300 := Tryz.func124.trans (congrArg some (by kernel_rfl))
  f301 := Tryz.func125.trans (congrArg some (by kernel_rfl))
  f328 := Tryz.func138.trans (congrArg some (by kernel_rfl))
  f329 := Tryz.func139.trans (congrArg some (by kernel_rfl))
  f330 := Tryz.func140.trans (congrArg some (by kernel_rfl))
  f331 := Tryz.func141.trans (congrArg some (by kernel_rfl))
  f332 := Tryz.func142.trans (congrArg some (by kernel_rfl))
  f343 := Tryz.func147.trans (congrArg some (by kernel_rfl))
  t0 := Tryz.underlying0
  a0 := Tryz.isAgg0
  z0 := Tryz.sizeOf0
  v0 := Tryz.zeroValue0
  t3 := Tryz.underlying3
  a3 := Tryz.isAgg3
  z3 := Tryz.sizeOf3
  v3 := Tryz.zeroValue3
  t4 := Tryz.underlying4
  a4 := Tryz.isAgg4
  z4 := Tryz.sizeOf4
  v4 := Tryz.zeroValue4
  t5 := Tryz.underlying5
  a5 := Tryz.isAgg5
  z5 := Tryz.sizeOf5
  v5 := Tryz.zeroValue5
  t9 := Tryz.underlying9
  a9 := Tryz.isAgg9
  z9 := Tryz.sizeOf9
  v9 := Tryz.zeroValue9
  t28 := Tryz.underlying55
  a28 := Tryz.isAgg55
  z28 := Tryz.sizeOf55
  v28 := Tryz.zeroValue55
  t46 := Tryz.underlying130
  a46 := Tryz.isAgg130
  z46 := Tryz.sizeOf130
  v46 := Tryz.zeroValue130
  t51 := Tryz.underlying182
  a51 := Tryz.isAgg182
  z51 := Tryz.sizeOf182
  v51 := Tryz.zeroValue182
  t53 := Tryz.underlying184
  a53 := Tryz.isAgg184
  z53 := Tryz.sizeOf184
  v53 := Tryz.zeroValue184
  t131 := Tryz.underlying72
  a131 := Tryz.isAgg72
  z131 := Tryz.sizeOf72
  v131 := Tryz.zeroValue72
  t182 := Tryz.underlying175
  a182 := Tryz.isAgg175
  z182 := Tryz.sizeOf175
  v182 := Tryz.zeroValue175
  t183 := Tryz.underlying176
  a183 := Tryz.isAgg176
  z183 := Tryz.sizeOf176
  v183 := Tryz.zeroValue176
  t218 := Tryz.underlying191
  a218 := Tryz.isAgg191
  z218 := Tryz.sizeOf191
  v218 := Tryz.zeroValue191
  t222 := Tryz.underlying195
  a222 := Tryz.isAgg195
  z222 := Tryz.sizeOf195
  v222 := Tryz.zeroValue195
  t228 := Tryz.underlying199
  a228 := Tryz.isAgg199
  z228 := Tryz.sizeOf199
  v228 := Tryz.zeroValue199
  t229 := Tryz.underlying92
  a229 := Tryz.isAgg92
  z229 := Tryz.sizeOf92
  v229 := Tryz.zeroValue92 }
def Tryz.clone_span_ren : Go.Shelf.Ren := ⟨fun | 41 => 105 | n => n, fun | 22 => 69 | 23 => 86 | 4 => 4 | n => n, fun | n => n⟩
theorem Tryz.clone_span : Go.Proofs.SlLaysE0.n41 Tryz.prog Tryz.clone_span_ren := {
  mixed := by kernel_rfl
  f41 := ⟨Tryz.f105.name, by decide, Tryz.func105.trans (congrArg some (by kernel_rfl))⟩
  t4 := Tryz.underlying4
  a4 := Tryz.isAgg4
  z4 := Tryz.sizeOf4
  v4 := Tryz.zeroValue4
  t22 := Tryz.underlying69
  a22 := Tryz.isAgg69
  z22 := Tryz.sizeOf69
  v22 := Tryz.zeroValue69 }
def Tryz.sort_span_ren : Go.Shelf.Ren := ⟨fun | 6 => 106 | 15 => 110 | 14 => 116 | 28 => 126 | 29 => 127 | 20 => 130 | 21 => 131 | 22 => 132 | 23 => 133 | 24 => 134 | 25 => 135 | 26 => 136 | 27 => 137 | 46 => 144 | 47 => 139 | 48 => 140 | 49 => 145 | 50 => 146 | 57 => 148 | n => n, fun | 22 => 69 | 24 => 86 | 25 => 165 | 3 => 3 | 39 => 130 | 0 => 0 | 53 => 182 | 55 => 184 | 4 => 4 | 46 => 176 | 45 => 175 | 50 => 72 | 5 => 5 | 9 => 9 | 66 => 191 | 70 => 195 | 76 => 199 | 77 => 92 | n => n, fun | n => n⟩
theorem Tryz.sort_span : Go.Proofs.SlLaysF0.n6 Tryz.prog Tryz.sort_span_ren := {
  mixed := by kernel_rfl
  f6 := ⟨Tryz.f106.name, by decide, Tryz.func106.trans (congrArg some (by kernel_rfl))⟩
  f14 := ⟨Tryz.f116.name, by decide, Tryz.func116.trans (congrArg some (by kernel_rfl))⟩
  f15 := Tryz.func110.trans (congrArg some (by kernel_rfl))
  f20 := ⟨Tryz.f130.name, by decide, Tryz.func130.trans (congrArg some (by kernel_rfl))⟩
  f21 := ⟨Tryz.f131.name, by decide, Tryz.func131.trans (congrArg some (by kernel_rfl))⟩
  f22 := ⟨Tryz.f132.name, by decide, Tryz.func132.trans (congrArg some (by kernel_rfl))⟩
  f23 := ⟨Tryz.f133.name, by decide, Tryz.func133.trans (congrArg some (by kernel_rfl))⟩
  f24 := ⟨Tryz.f134.name, by decide, Tryz.func134.trans (congrArg some (by kernel_rfl))⟩
  f25 := ⟨Tryz.f135.name, by decide, Tryz.func135.trans (congrArg some (by kernel_rfl))⟩
  f26 := ⟨Tryz.f136.name, by decide, Tryz.func136.trans (congrArg some (by kernel_rfl))⟩
  f27 := ⟨Tryz.f137.name, by decide, Tryz.func137.trans (congrArg some (by kernel_rfl))⟩
  f28 := Tryz.func126.trans (congrArg some (by kernel_rfl))
  f29 := Tryz.func127.trans (congrArg some (by kernel_rfl))
  f46 := ⟨Tryz.f144.name, by decide, Tryz.func144.trans (congrArg some (by kernel_rfl))⟩
  f47 := Tryz.func139.trans (congrArg some (by kernel_rfl))
  f48 := Tryz.func140.trans (congrArg some (by kernel_rfl))
  f49 := ⟨Tryz.f145.name, by decide, Tryz.func145.trans (congrArg some (by kernel_rfl))⟩
  f50 := ⟨Tryz.f146.name, by decide, Tryz.func146.trans (congrArg some (by kernel_rfl))⟩
  f57 := ⟨Tryz.f148.name, by decide, Tryz.func148.trans (congrArg some (by kernel_rfl))⟩
  t0 := Tryz.underlying0
  a0 := Tryz.isAgg0
  z0 := Tryz.sizeOf0
  v0 := Tryz.zeroValue0
  t3 := Tryz.underlying3
  a3 := Tryz.isAgg3
  z3 := Tryz.sizeOf3
  v3 := Tryz.zeroValue3
  t4 := Tryz.underlying4
  a4 := Tryz.isAgg4
  z4 := Tryz.sizeOf4
  v4 := Tryz.zeroValue4
  t5 := Tryz.underlying5
  a5 := Tryz.isAgg5
  z5 := Tryz.sizeOf5
  v5 := Tryz.zeroValue5
  t9 := Tryz.underlying9
  a9 := Tryz.isAgg9
  z9 := Tryz.sizeOf9
  v9 := Tryz.zeroValue9
  t22 := Tryz.underlying69
  a22 := Tryz.isAgg69
  z22 := Tryz.sizeOf69
  v22 := Tryz.zeroValue69
  t25 := Tryz.underlying165
  a25 := Tryz.isAgg165
  z25 := Tryz.sizeOf165
  v25 := Tryz.zeroValue165
  t39 := Tryz.underlying130
  a39 := Tryz.isAgg130
  z39 := Tryz.sizeOf130
  v39 := Tryz.zeroValue130
  t45 := Tryz.underlying175
  a45 := Tryz.isAgg175
  z45 := Tryz.sizeOf175
  v45 := Tryz.zeroValue175
  t46 := Tryz.underlying176
  a46 := Tryz.isAgg176
  z46 := Tryz.sizeOf176
  v46 := Tryz.zeroValue176
  t50 := Tryz.underlying72
  a50 := Tryz.isAgg72
  z50 := Tryz.sizeOf72
  v50 := Tryz.zeroValue72
  t53 := Tryz.underlying182
  a53 := Tryz.isAgg182
  z53 := Tryz.sizeOf182
  v53 := Tryz.zeroValue182
  t55 := Tryz.underlying184
  a55 := Tryz.isAgg184
  z55 := Tryz.sizeOf184
  v55 := Tryz.zeroValue184
  t66 := Tryz.underlying191
  a66 := Tryz.isAgg191
  z66 := Tryz.sizeOf191
  v66 := Tryz.zeroValue191
  t70 := Tryz.underlying195
  a70 := Tryz.isAgg195
  z70 := Tryz.sizeOf195
  v70 := Tryz.zeroValue195
  t76 := Tryz.underlying199
  a76 := Tryz.isAgg199
  z76 := Tryz.sizeOf199
  v76 := Tryz.zeroValue199
  t77 := Tryz.underlying92
  a77 := Tryz.isAgg92
  z77 := Tryz.sizeOf92
  v77 := Tryz.zeroValue92 }
def Tryz.grow_span_ren : Go.Shelf.Ren := ⟨fun | 4 => 108 | n => n, fun | 22 => 69 | 25 => 86 | 3 => 3 | 4 => 4 | 9 => 9 | 20 => 20 | 0 => 0 | 2 => 3 | n => n, fun | n => n⟩
theorem Tryz.grow_span : Go.Proofs.Lays8.n4 Tryz.prog Tryz.grow_span_ren := {
  mixed := by kernel_rfl
  f4 := ⟨Tryz.f108.name, by decide, Tryz.func108.trans (congrArg some (by kernel_rfl))⟩
  t0 := Tryz.underlying0
  a0 := Tryz.isAgg0
  z0 := Tryz.sizeOf0
  v0 := Tryz.zeroValue0
  t3 := Tryz.underlying3
  a3 := Tryz.isAgg3
  z3 := Tryz.sizeOf3
  v3 := Tryz.zeroValue3
  t4 := Tryz.underlying4
  a4 := Tryz.isAgg4
  z4 := Tryz.sizeOf4
  v4 := Tryz.zeroValue4
  t9 := Tryz.underlying9
  a9 := Tryz.isAgg9
  z9 := Tryz.sizeOf9
  v9 := Tryz.zeroValue9
  t20 := Tryz.underlying20
  a20 := Tryz.isAgg20
  z20 := Tryz.sizeOf20
  v20 := Tryz.zeroValue20
  t22 := Tryz.underlying69
  a22 := Tryz.isAgg69
  z22 := Tryz.sizeOf69
  v22 := Tryz.zeroValue69 }
end Go.Proofs
namespace Go.AM
open Go Go.Proofs
noncomputable section
abbrev R_u101 : Type := List (T15).T
def res_u101 (r : R_u101) : AV := .own 0 0
def bo_u101 (s_ : List (T15).T) (r : R_u101) : List (Nat × Blk) := [(0, .row 86 T15 r)]
def args_u101 (s_ : List (T15).T) : List AV := [.r (.ro T15 s_)]
def bin_u101 (s_ : List (T15).T) : List Blk := []
abbrev C_u101 (s_ : List (T15).T) (r : R_u101) : Prop := CC Tryz.prog 105 (args_u101 s_) (bin_u101 s_) (res_u101 r) (bo_u101 s_ r)
def f_u101 (k : Nat) (s_ : List (T15).T) : Option R_u101 := if s_.length * 16 ≤ 140737488355328 then some s_ else none
def v_u101 (k : Nat) (s_ : List (T15).T) : R_u101 := (f_u101 k s_).getD []
def ke_u101 (k : Nat) : Ke := (105, fun xs => match xs with
  | [_] => some [false]
  | _ => none, fun xs bs => match xs, bs with
  | [.r (.ro ts__ qs_)], [] => (castL ts__ T15 qs_).bind fun s_ => some (.one (res_u101 (v_u101 k s_), bo_u101 s_ (v_u101 k s_)))
  | _, _ => none)
theorem of_u101 (k : Nat) (s_ : List (T15).T) (r : R_u101) (h : f_u101 k s_ = some r) : CC Tryz.prog 105 (args_u101 s_) (bin_u101 s_) (res_u101 r) (bo_u101 s_ r) := by
  unfold f_u101 at h
  split at h
  · rename_i q
    cases h
    exact cc_clone' (τ := T15) Tryz.clone_span (by kernel_rfl) Tryz.sizeOf86 ⟨Tryz.f105, _, Tryz.func105, rfl, by kernel_rfl⟩ s_ q
  · cases h
theorem cc_u101 {k : Nat} {s_ : List (T15).T} (h : (f_u101 k s_).isSome = true) : C_u101 s_ (v_u101 k s_) := ccG (Φ := C_u101 s_) h (of_u101 k s_)
abbrev R_u104 : Type := List (T15).T
def res_u104 (r : R_u104) : AV := .tup []
def bo_u104 (x_ : List (T15).T) (r : R_u104) : List (Nat × Blk) := [(0, .row 86 T15 r)]
def args_u104 (x_ : List (T15).T) : List AV := [.own 0 0, .r (.v (.func (.func 107) #[] #[]))]
def bin_u104 (x_ : List (T15).T) : List Blk := [.row 86 T15 x_]
abbrev C_u104 (x_ : List (T15).T) (r : R_u104) : Prop := CC Tryz.prog 106 (args_u104 x_) (bin_u104 x_) (res_u104 r) (bo_u104 x_ r)
theorem cmp_ (x y : SPair) (W : World) : Calls Tryz.prog 107 #[.agg #[.int .i64 x.1.1, .int .i64 x.1.2], .agg #[.int .i64 y.1.1, .int .i64 y.1.2]] W fun e w' => e = .returned (.int .i64 (spCmp x y)) ∧ ∃ q os', w' = Sort.grow (W.drewN q) os' := by
  have hw : RowKit.wrap64 (x.1.1 - y.1.1) = spCmp x y := by
    have h1 := x.2; have h2 := y.2
    unfold SmallI at h1 h2
    unfold RowKit.wrap64 spCmp
    omega
  go_enter Tryz.func107, Tryz.ntmps107
  go_wp2
  go_ret
  exact ⟨by rw [← hw]; rfl, 0, _, by rw [Sort.alloc_eq_grow, Sort.alloc_eq_grow, Sort.grow_grow]; rfl⟩
def f_u104 (k : Nat) (x_ : List (T15).T) : Option R_u104 := if (x_.all fun x => decide (SmallI x.1)) = true ∧ x_.length < 4611686018427387904 then some (sortSP x_) else none
def v_u104 (k : Nat) (x_ : List (T15).T) : R_u104 := (f_u104 k x_).getD []
def ke_u104 (k : Nat) : Ke := (106, fun xs => match xs with
  | [.own _ _, .r (.v (.func (.func 107) _ _))] => some [true, false]
  | _ => none, fun xs bs => match xs, bs with
  | [.own 0 0, .r (.v (.func (.func 107) _ _))], [.row 86 tx__ qx_] => (castL tx__ T15 qx_).bind fun x_ => some (.one (res_u104 (v_u104 k x_), bo_u104 x_ (v_u104 k x_)))
  | _, _ => none)
theorem of_u104 (k : Nat) (x_ : List (T15).T) (r : R_u104) (h : f_u104 k x_ = some r) : CC Tryz.prog 106 (args_u104 x_) (bin_u104 x_) (res_u104 r) (bo_u104 x_ r) := by
  unfold f_u104 at h
  split at h
  · rename_i q
    cases h
    have h1 : (toSP x_).map (·.1) = x_ := toSP_val x_ fun x hx => by simpa using List.all_eq_true.1 q.1 x hx
    have hl : (toSP x_).toArray.size = x_.length := by
      have := congrArg List.length h1
      simpa using this
    have := cc_sortFunc (P := Tryz.prog) Tryz.sort_span ⟨Tryz.f106, _, Tryz.func106, rfl, by kernel_rfl⟩ (τ := T15) rfl (by decide) Tryz.isAgg86 Tryz.sizeOf86 86 (α := SPair) (fun x => x.1) spCmp spCmp_swo 107 (enters_of Tryz.func107 (by kernel_rfl) rfl) (fun blk n w => fun _ _ _ _ x y => cmp_ x y _) (toSP x_).toArray (by rw [hl]; exact q.2) (fun x v hv => by simp [vals] at hv; rcases hv with rfl | rfl <;> rfl)
    have e2 : (toSP x_).toArray.toList.map (fun x : SPair => x.1) = x_ := h1
    rw [e2] at this
    exact this
  · cases h
theorem cc_u104 {k : Nat} {x_ : List (T15).T} (h : (f_u104 k x_).isSome = true) : C_u104 x_ (v_u104 k x_) := ccG (Φ := C_u104 x_) h (of_u104 k x_)
abbrev R_u112 : Type := Int
def res_u112 (r : R_u112) : AV := .r (.v (.int .i64 r))
def bo_u112 (a_ : T15.T) (b_ : T15.T) (r : R_u112) : List (Nat × Blk) := []
def f_u112 (k : Nat) (a_ : T15.T) (b_ : T15.T) : Option R_u112 :=
  some (IntKind.i64.wrap (a_.1 - b_.1))
def v_u112 (k : Nat) (a_ : T15.T) (b_ : T15.T) : R_u112 := (f_u112 k a_ b_).getD 0
def ke_u112 (k : Nat) : Ke := (107, fun xs => match xs with
  | [_, _] => some [false, false]
  | _ => none, fun xs bs => match xs, bs with
  | [.agg qa_, .agg qb_], [] => (decS [] T15 qa_).bind fun a_ => (decS [] T15 qb_).bind fun b_ => some (.one (res_u112 (v_u112 k a_ b_), bo_u112 a_ b_ (v_u112 k a_ b_)))
  | _, _ => none)
end
end Go.AM
namespace Go.AM
open Go Go.Proofs
noncomputable section
abbrev R_u111 : Type := List (T15).T
def res_u111 (r : R_u111) : AV := .r (.ro T15 r)
def bo_u111 (l_ : List (T15).T) (r : R_u111) : List (Nat × Blk) := []
def args_u111 (l_ : List (T15).T) : List AV := [.r (.ro T15 l_)]
def bin_u111 (l_ : List (T15).T) : List Blk := []
abbrev C_u111 (l_ : List (T15).T) (r : R_u111) : Prop := CC Tryz.prog 92 (args_u111 l_) (bin_u111 l_) (res_u111 r) (bo_u111 l_ r)
def st_u111_6 (y0 : Int) (y1 : Int) (y2 : List (T15).T) (y3 : T15.T) (y4 : List (T15).T) : St := ⟨mkS 66 [(3, .own 1000000 0), (4, .ptr 1000001 0 0), (12, .own 1000002 0), (13, .r (.v (.int .i64 y0))), (14, .r (.v (.int .i64 y1)))], [(1000000, 0, .row 86 T15 y2), (1000001, 0, .var 86 (rvs (enc T15 y3))), (1000002, 0, .row 86 T15 y4)]⟩
def f_u111_6 (k : Nat) : Nat → Int → Int → List (T15).T → T15.T → List (T15).T → Option R_u111
  | 0, _, _, _, _, _ => none
  | j + 1, y0, y1, y2, y3, y4 =>
  bif (decide (y1 < y0)) then
  if (0 ≤ y1) ∧ (y1 < (↑y4.length : Int)) then
  bif (decide ((y4.getD y1.toNat T15.dflt).1 ≥ (y4.getD y1.toNat T15.dflt).2) || eqT T15 (y4.getD y1.toNat T15.dflt) y3) then
  f_u111_6 k j y0 ((IntKind.i64.wrap (y1 + 1))) y2 ((y4.getD y1.toNat T15.dflt)) y4
  else
  if (decide ((↑y2.length : Int) > (0 : Int)) = true → (0 : Int) ≤ IntKind.i64.wrap ((↑y2.length : Int) - (1 : Int))) ∧ (decide ((↑y2.length : Int) > (0 : Int)) = true → IntKind.i64.wrap ((↑y2.length : Int) - (1 : Int)) < (↑y2.length : Int)) then
  bif (decide ((↑y2.length : Int) > (0 : Int)) && decide ((y4.getD y1.toNat T15.dflt).1 ≤ (y2.getD (IntKind.i64.wrap ((↑y2.length : Int) - (1 : Int))).toNat T15.dflt).2)) then
  if ((0 : Int) ≤ IntKind.i64.wrap ((↑y2.length : Int) - (1 : Int))) ∧ (IntKind.i64.wrap ((↑y2.length : Int) - (1 : Int)) < (↑y2.length : Int)) ∧ ((0 : Int) ≤ IntKind.i64.wrap ((↑y2.length : Int) - (1 : Int))) ∧ (IntKind.i64.wrap ((↑y2.length : Int) - (1 : Int)) < (↑y2.length : Int)) then
  f_u111_6 k j y0 ((IntKind.i64.wrap (y1 + 1))) ((y2.set (IntKind.i64.wrap ((↑y2.length : Int) - 1)).toNat ((y2.getD (IntKind.i64.wrap ((↑y2.length : Int) - 1)).toNat T15.dflt).1, if (y4.getD y1.toNat T15.dflt).2 > (y2.getD (IntKind.i64.wrap ((↑y2.length : Int) - 1)).toNat T15.dflt).2 then (y4.getD y1.toNat T15.dflt).2 else (y2.getD (IntKind.i64.wrap ((↑y2.length : Int) - 1)).toNat T15.dflt).2))) ((y4.getD y1.toNat T15.dflt)) y4
  else none
  else
  if ((y2.length + [y4.getD y1.toNat T15.dflt].length) * (16 : Nat) ≤ (140737488355328 : Nat)) then
  f_u111_6 k j y0 ((IntKind.i64.wrap (y1 + 1))) ((y2 ++ [y4.getD y1.toNat T15.dflt])) ((y4.getD y1.toNat T15.dflt)) y4
  else none
  else none
  else none
  else
  some y2
def f_u111 (k : Nat) (l_ : List (T15).T) : Option R_u111 :=
  if ((f_u101 k l_).isSome = true) then
  if ((f_u104 k (v_u101 k l_)).isSome = true) then
  f_u111_6 k k ((↑ (List.length (v_u104 k (v_u101 k l_))) : Int)) 0 ([]) ((0, 0)) ((v_u104 k (v_u101 k l_)))
  else none
  else none
def v_u111 (k : Nat) (l_ : List (T15).T) : R_u111 := (f_u111 k l_).getD []
def ke_u111 (k : Nat) : Ke := (92, fun xs => match xs with
  | [_] => some [false]
  | _ => none, fun xs bs => match xs, bs with
  | [.r (.ro tl__ ql_)], [] => (castL tl__ T15 ql_).bind fun l_ => some (.one (res_u111 (v_u111 k l_), bo_u111 l_ (v_u111 k l_)))
  | _, _ => none)
def K_u111 (k : Nat) : Calld := mkK [ke_u101 k, ke_u104 k, ke_u112 k]
def cs_u111 : List (Nat × List Cmd) := [(6, [.row 3 86 T15, .autoB [3, 4, 12, 13, 14] false []])]
abbrev E_u111 (l_ : List (T15).T) (todo : List Item) (st : St) (o : Option R_u111) : Prop := ∀ r, o = some r → Ev Tryz.prog Tryz.f92 0 todo st (res_u111 r) (bo_u111 l_ r)
theorem ev_u111 (k : Nat) (l_ : List (T15).T) : ∀ j, (∀ (y0 : Int) (y1 : Int) (y2 : List (T15).T) (y3 : T15.T) (y4 : List (T15).T), E_u111 l_ (placeAt Tryz.f92 6) (st_u111_6 y0 y1 y2 y3 y4) (f_u111_6 k j y0 y1 y2 y3 y4))
  | 0 => fun _ _ _ _ _ _ h => (nomatch h)
  | j + 1 => by
    have ih := @ev_u111 k l_ j
    · intro y0 y1 y2 y3 y4 r h
      rw [f_u111_6] at h
      exact go (K_u111 k) [] cs_u111 [.frz 2 false (RTy.list T15), .autoB [2] true []] (gT h (fun c h => gN2 h fun h => gT h (fun c h => gC h 6 (ih _ _ _ _ _ _)) fun c h => gN2 h fun h => gT h (fun c h => gN h (fun q => conjC q.1 (conjC q.2.1 (conjC q.2.2.1 (conjC q.2.2.2 conj0)))) fun h => gC h 6 (ih _ _ _ _ _ _)) fun c h => gN1 h id fun h => gC h 6 (ih _ _ _ _ _ _)) fun c h => gL h) (by kernel_rfl)
theorem of_u111 (k : Nat) (l_ : List (T15).T) (r : R_u111) (h : f_u111 k l_ = some r) : C_u111 l_ r := by
  refine CC.of (fn := Tryz.f92) (by kernel_rfl) (by kernel_rfl) (by kernel_rfl) (by kernel_rfl) ?_
  unfold f_u111 at h
  exact go (K_u111 k) [] cs_u111 [.frz 2 false (RTy.list T15), .autoB [2] true []] (gN1 h (fun q => cc_u101 q) fun h => gN1 h (fun q => cc_u104 q) fun h => gC h 6 ((ev_u111 k l_ k) _ _ _ _ _ _)) (by kernel_rfl)
theorem cc_u111 {k : Nat} {l_ : List (T15).T} (h : (f_u111 k l_).isSome = true) : C_u111 l_ (v_u111 k l_) := ccG (Φ := C_u111 l_) h (of_u111 k l_)
abbrev R_u103 : Type := List (T15).T
def res_u103 (r : R_u103) : AV := .own 0 0
def bo_u103 (n_ : Int) (r : R_u103) : List (Nat × Blk) := [(0, .row 86 T15 r)]
def args_u103 (n_ : Int) : List AV := [.r (.v (Value.slice none 0 0)), .r (.v (.int .i64 n_))]
def bin_u103 (n_ : Int) : List Blk := []
abbrev C_u103 (n_ : Int) (r : R_u103) : Prop := CC Tryz.prog 108 (args_u103 n_) (bin_u103 n_) (res_u103 r) (bo_u103 n_ r)
def f_u103 (k : Nat) (n_ : Int) : Option R_u103 := if 0 ≤ n_ ∧ n_.toNat * 16 ≤ 140737488355328 then some [] else none
def v_u103 (k : Nat) (n_ : Int) : R_u103 := (f_u103 k n_).getD []
def ke_u103 (k : Nat) : Ke := (108, fun xs => match xs with
  | [.r (.v (Value.slice none 0 0)), _] => some [true, false]
  | _ => none, fun xs bs => match xs, bs with
  | [.r (.v (Value.slice none 0 0)), .r (.v (.int .i64 n_))], [] => some (.one (res_u103 (v_u103 k n_), bo_u103 n_ (v_u103 k n_)))
  | _, _ => none)
theorem of_u103 (k : Nat) (n_ : Int) (r : R_u103) (h : f_u103 k n_ = some r) : CC Tryz.prog 108 (args_u103 n_) (bin_u103 n_) (res_u103 r) (bo_u103 n_ r) := by
  unfold f_u103 at h
  split at h
  · rename_i q
    cases h
    exact cc_grow' Tryz.grow_span ⟨Tryz.f108, _, Tryz.func108, rfl, by kernel_rfl⟩ T15 (by kernel_rfl) n_ q.1 q.2
  · cases h
theorem cc_u103 {k : Nat} {n_ : Int} (h : (f_u103 k n_).isSome = true) : C_u103 n_ (v_u103 k n_) := ccG (Φ := C_u103 n_) h (of_u103 k n_)
abbrev R_u102 : Type := List (T15).T
def res_u102 (r : R_u102) : AV := .own 0 0
def bo_u102 (slices_ : List (RTy.list T15).T) (r : R_u102) : List (Nat × Blk) := [(0, .row 86 T15 r)]
def args_u102 (slices_ : List (RTy.list T15).T) : List AV := [.r (.ro (RTy.list T15) slices_)]
def bin_u102 (slices_ : List (RTy.list T15).T) : List Blk := []
abbrev C_u102 (slices_ : List (RTy.list T15).T) (r : R_u102) : Prop := CC Tryz.prog 93 (args_u102 slices_) (bin_u102 slices_) (res_u102 r) (bo_u102 slices_ r)
def st_u102_3 (y0 : List (T15.list).T) (y1 : Int) (y2 : List (T15.list).T) (y3 : Int) (y4 : Int) : St := ⟨mkS 36 [(0, .r (.ro T15.list y0)), (3, .r (.v (.int .i64 y1))), (9, .r (.ro T15.list y2)), (10, .r (.v (.int .i64 y3))), (11, .r (.v (.int .i64 y4)))], []⟩
def st_u102_11 (y0 : List (T15.list).T) (y1 : Int) (y2 : Int) (y3 : List (T15).T) : St := ⟨mkS 36 [(6, .own 1000000 0), (25, .r (.ro T15.list y0)), (26, .r (.v (.int .i64 y1))), (27, .r (.v (.int .i64 y2)))], [(1000000, 0, .row 86 T15 y3)]⟩
mutual
def f_u102_3 (k : Nat) : Nat → List (T15.list).T → Int → List (T15.list).T → Int → Int → Option R_u102
  | 0, _, _, _, _, _ => none
  | j + 1, y0, y1, y2, y3, y4 =>
  bif (decide (y4 < y3)) then
  if (0 ≤ y4) ∧ (y4 < (↑y2.length : Int)) then
  bif (decide (IntKind.i64.wrap (y1 + (↑ (List.length (y2.getD y4.toNat T15.list.dflt)) : Int)) < (0 : Int))) then
  none
  else
  f_u102_3 k j y0 ((IntKind.i64.wrap (y1 + (↑ (List.length (y2.getD y4.toNat T15.list.dflt)) : Int)))) y2 y3 ((IntKind.i64.wrap (y4 + 1)))
  else none
  else
  if ((f_u103 k y1).isSome = true) then
  f_u102_11 k j y0 ((↑y0.length : Int)) 0 ((v_u103 k y1))
  else none
def f_u102_11 (k : Nat) : Nat → List (T15.list).T → Int → Int → List (T15).T → Option R_u102
  | 0, _, _, _, _ => none
  | j + 1, y0, y1, y2, y3 =>
  bif (decide (y2 < y1)) then
  if (0 ≤ y2) ∧ (y2 < (↑y0.length : Int)) then
  if ((y3.length + List.length (y0.getD y2.toNat T15.list.dflt)) * (16 : Nat) ≤ (140737488355328 : Nat)) then
  f_u102_11 k j y0 y1 ((IntKind.i64.wrap (y2 + 1))) ((y3 ++ y0.getD y2.toNat T15.list.dflt))
  else none
  else none
  else
  some y3
end
def f_u102 (k : Nat) (slices_ : List (RTy.list T15).T) : Option R_u102 :=
  f_u102_3 k k slices_ 0 slices_ ((↑slices_.length : Int)) 0
def v_u102 (k : Nat) (slices_ : List (RTy.list T15).T) : R_u102 := (f_u102 k slices_).getD []
def ke_u102 (k : Nat) : Ke := (93, fun xs => match xs with
  | [_] => some [false]
  | _ => none, fun xs bs => match xs, bs with
  | [.r (.ro tslices__ qslices_)], [] => (castL tslices__ (RTy.list T15) qslices_).bind fun slices_ => some (.one (res_u102 (v_u102 k slices_), bo_u102 slices_ (v_u102 k slices_)))
  | _, _ => none)
def cs_u102 : List (Nat × List Cmd) := [(3, [.autoB [0, 3, 9, 10, 11] false []]), (11, [.autoB [6, 25, 26, 27] false []])]
abbrev E_u102 (slices_ : List (RTy.list T15).T) (todo : List Item) (st : St) (o : Option R_u102) : Prop := ∀ r, o = some r → Ev Tryz.prog Tryz.f93 0 todo st (res_u102 r) (bo_u102 slices_ r)
theorem ev_u102 (k : Nat) (slices_ : List (RTy.list T15).T) : ∀ j, (∀ (y0 : List (T15.list).T) (y1 : Int) (y2 : List (T15.list).T) (y3 : Int) (y4 : Int), E_u102 slices_ (placeAt Tryz.f93 3) (st_u102_3 y0 y1 y2 y3 y4) (f_u102_3 k j y0 y1 y2 y3 y4)) ∧ (∀ (y0 : List (T15.list).T) (y1 : Int) (y2 : Int) (y3 : List (T15).T), E_u102 slices_ (placeAt Tryz.f93 11) (st_u102_11 y0 y1 y2 y3) (f_u102_11 k j y0 y1 y2 y3))
  | 0 => ⟨fun _ _ _ _ _ _ h => (nomatch h), fun _ _ _ _ _ h => (nomatch h)⟩
  | j + 1 => by
    have ih := @ev_u102 k slices_ j
    refine ⟨?_, ?_⟩
    · intro y0 y1 y2 y3 y4 r h
      rw [f_u102_3] at h
      exact go (mkK [ke_u103 k]) [] cs_u102 [.autoB [2] true []] (gT h (fun c h => gN2 h fun h => gT h (fun c h => gZ h (.stuck 5000)) fun c h => gC h 3 (ih.1 _ _ _ _ _ _)) fun c h => gN1 h (fun q => cc_u103 q) fun h => gC h 11 (ih.2 _ _ _ _ _)) (by kernel_rfl)
    · intro y0 y1 y2 y3 r h
      rw [f_u102_11] at h
      exact go (mkK [ke_u103 k]) [] cs_u102 [.autoB [2] true []] (gT h (fun c h => gN2 h fun h => gN1 h id fun h => gC h 11 (ih.2 _ _ _ _ _)) fun c h => gL h) (by kernel_rfl)
theorem of_u102 (k : Nat) (slices_ : List (RTy.list T15).T) (r : R_u102) (h : f_u102 k slices_ = some r) : C_u102 slices_ r := by
  refine CC.of (fn := Tryz.f93) (by kernel_rfl) (by kernel_rfl) (by kernel_rfl) (by kernel_rfl) ?_
  unfold f_u102 at h
  exact go (mkK [ke_u103 k]) [] cs_u102 [.autoB [2] true []] (gC h 3 ((ev_u102 k slices_ k).1 _ _ _ _ _ _)) (by kernel_rfl)
theorem cc_u102 {k : Nat} {slices_ : List (RTy.list T15).T} (h : (f_u102 k slices_).isSome = true) : C_u102 slices_ (v_u102 k slices_) := ccG (Φ := C_u102 slices_) h (of_u102 k slices_)
abbrev R_u105 : Type := List Int
def res_u105 (r : R_u105) : AV := .tup []
def bo_u105 (x_ : List (I).T) (r : R_u105) : List (Nat × Blk) := [(0, .row 3 (RTy.int .i64) r)]
def args_u105 (x_ : List (I).T) : List AV := [.own 0 0]
def bin_u105 (x_ : List (I).T) : List Blk := [.row 3 I x_]
abbrev C_u105 (x_ : List (I).T) (r : R_u105) : Prop := CC Tryz.prog 94 (args_u105 x_) (bin_u105 x_) (res_u105 r) (bo_u105 x_ r)
def f_u105 (k : Nat) (x_ : List Int) : Option R_u105 := if x_.length < 4611686018427387904 then some (x_.mergeSort fun x y => decide (x ≤ y)) else none
def v_u105 (k : Nat) (x_ : List (I).T) : R_u105 := (f_u105 k x_).getD []
def ke_u105 (k : Nat) : Ke := (94, fun xs => match xs with
  | [.own _ _] => some [true]
  | _ => none, fun xs bs => match xs, bs with
  | [.own 0 0], [.row 3 tx__ qx_] => (castL tx__ I qx_).bind fun x_ => some (.one (res_u105 (v_u105 k x_), bo_u105 x_ (v_u105 k x_)))
  | _, _ => none)
theorem of_u105 (k : Nat) (x_ : List Int) (r : R_u105) (h : f_u105 k x_ = some r) : CC Tryz.prog 94 (args_u105 x_) (bin_u105 x_) (res_u105 r) (bo_u105 x_ r) := by
  unfold f_u105 at h
  split at h
  · rename_i q
    cases h
    exact cc_sort_int Tryz.sort_int ⟨Tryz.f94, _, Tryz.func94, rfl, by kernel_rfl⟩ 3 x_ q
  · cases h
theorem cc_u105 {k : Nat} {x_ : List (I).T} (h : (f_u105 k x_).isSome = true) : C_u105 x_ (v_u105 k x_) := ccG (Φ := C_u105 x_) h (of_u105 k x_)
abbrev R_u113 : Type := List (T15).T × Int
def res_u113 (r : R_u113) : AV := .tup [.r (.ro T15 r.1), .r (.v (.int .i64 r.2))]
def bo_u113 (t_ : List (T15).T) (o_ : List (T15).T) (r : R_u113) : List (Nat × Blk) := []
def args_u113 (t_ : List (T15).T) (o_ : List (T15).T) : List AV := [.r (.ro T15 t_), .r (.ro T15 o_), .r (.v (.func (.func 68) #[] #[]))]
def bin_u113 (t_ : List (T15).T) (o_ : List (T15).T) : List Blk := []
abbrev C_u113 (t_ : List (T15).T) (o_ : List (T15).T) (r : R_u113) : Prop := CC Tryz.prog 67 (args_u113 t_ o_) (bin_u113 t_ o_) (res_u113 r) (bo_u113 t_ o_ r)
def st_u113_10 (y0 : List (T15).T) (y1 : List (T15).T) (y2 : Int) (y3 : Int) (y4 : List (I).T) (y5 : List (T15).T) : St := ⟨mkS 147 [(0, .r (.ro T15 y0)), (1, .r (.ro T15 y1)), (2, .r (.v (Value.func (Fn.func 68) #[] #[]))), (10, .own 1000000 0), (35, .own 1000001 0), (36, .r (.v (.int .i64 y2))), (37, .r (.v (.int .i64 y3)))], [(1000000, 0, .row 3 I y4), (1000001, 0, .row 86 T15 y5)]⟩
def st_u113_18 (y0 : List (T15).T) (y1 : List (T15).T) (y2 : Int) (y3 : Int) (y4 : Int) (y5 : Int) (y6 : List (RTy.int IntKind.i64).T) (y7 : List (T15).T) : St := ⟨mkS 147 [(0, .r (.ro T15 y0)), (1, .r (.ro T15 y1)), (2, .r (.v (Value.func (Fn.func 68) #[] #[]))), (10, .own 1000000 0), (13, .own 1000001 0), (14, .r (.v (.int .i64 y2))), (15, .r (.v (.int .i64 y3))), (51, .own 1000000 0), (52, .r (.v (.int .i64 y4))), (53, .r (.v (.int .i64 y5)))], [(1000000, 0, .row 3 ((RTy.int IntKind.i64)) y6), (1000001, 0, .row 86 T15 y7)]⟩
def st_u113_20 (y0 : List (T15).T) (y1 : List (T15).T) (y2 : Int) (y3 : Int) (y4 : Int) (y5 : Int) (y6 : Int) (y7 : Int) (y8 : List (RTy.int IntKind.i64).T) (y9 : List (T15).T) : St := ⟨mkS 147 [(0, .r (.ro T15 y0)), (1, .r (.ro T15 y1)), (2, .r (.v (Value.func (Fn.func 68) #[] #[]))), (10, .own 1000000 0), (13, .own 1000001 0), (14, .r (.v (.int .i64 y2))), (15, .r (.v (.int .i64 y3))), (16, .r (.v (.int .i64 y4))), (17, .r (.v (.int .i64 y5))), (51, .own 1000000 0), (52, .r (.v (.int .i64 y6))), (53, .r (.v (.int .i64 y7)))], [(1000000, 0, .row 3 ((RTy.int IntKind.i64)) y8), (1000001, 0, .row 86 T15 y9)]⟩
def st_u113_22 (y0 : List (T15).T) (y1 : List (T15).T) (y2 : Int) (y3 : Int) (y4 : Int) (y5 : Int) (y6 : Int) (y7 : Int) (y8 : List (RTy.int IntKind.i64).T) (y9 : List (T15).T) : St := ⟨mkS 147 [(0, .r (.ro T15 y0)), (1, .r (.ro T15 y1)), (2, .r (.v (Value.func (Fn.func 68) #[] #[]))), (10, .own 1000000 0), (13, .own 1000001 0), (14, .r (.v (.int .i64 y2))), (15, .r (.v (.int .i64 y3))), (16, .r (.v (.int .i64 y4))), (17, .r (.v (.int .i64 y5))), (51, .own 1000000 0), (52, .r (.v (.int .i64 y6))), (53, .r (.v (.int .i64 y7)))], [(1000000, 0, .row 3 ((RTy.int IntKind.i64)) y8), (1000001, 0, .row 86 T15 y9)]⟩
def st_u113_28 (y0 : List (T15).T) : St := ⟨mkS 147 [(13, .r (.ro T15 y0))], []⟩
mutual
def f_u113_10 (k : Nat) : Nat → List (T15).T → List (T15).T → Int → Int → List (I).T → List (T15).T → Option R_u113
  | 0, _, _, _, _, _, _ => none
  | j + 1, y0, y1, y2, y3, y4, y5 =>
  bif (decide (y3 < y2)) then
  if (0 ≤ y3) ∧ (y3 < (↑y5.length : Int)) then
  if ((y4.length + [(y5.getD y3.toNat T15.dflt).1, (y5.getD y3.toNat T15.dflt).2].length) * (8 : Nat) ≤ (140737488355328 : Nat)) then
  f_u113_10 k j y0 y1 y2 ((IntKind.i64.wrap (y3 + 1))) ((y4 ++ [(y5.getD y3.toNat T15.dflt).1, (y5.getD y3.toNat T15.dflt).2])) y5
  else none
  else none
  else
  if ((f_u105 k y4).isSome = true) then
  f_u113_18 k j y0 y1 0 0 ((↑ (List.length (v_u105 k y4)) : Int)) 0 ((v_u105 k y4)) ([])
  else none
def f_u113_18 (k : Nat) : Nat → List (T15).T → List (T15).T → Int → Int → Int → Int → List (RTy.int IntKind.i64).T → List (T15).T → Option R_u113
  | 0, _, _, _, _, _, _, _, _ => none
  | j + 1, y0, y1, y2, y3, y4, y5, y6, y7 =>
  bif (decide (y5 < y4)) then
  if (0 ≤ y5) ∧ (y5 < (↑y6.length : Int)) then
  f_u113_20 k j y0 y1 y2 y3 y5 ((y6.getD y5.toNat (RTy.int IntKind.i64).dflt)) y4 y5 y6 y7
  else none
  else
  f_u113_28 k j y7
def f_u113_20 (k : Nat) : Nat → List (T15).T → List (T15).T → Int → Int → Int → Int → Int → Int → List (RTy.int IntKind.i64).T → List (T15).T → Option R_u113
  | 0, _, _, _, _, _, _, _, _, _, _ => none
  | j + 1, y0, y1, y2, y3, y4, y5, y6, y7, y8, y9 =>
  if (decide (y2 < (↑y0.length : Int)) = true → 0 ≤ y2) ∧ (decide (y2 < (↑y0.length : Int)) = true → y2 < (↑y0.length : Int)) then
  bif (decide (y2 < (↑y0.length : Int)) && decide ((y0.getD y2.toNat T15.dflt).2 ≤ y5)) then
  f_u113_20 k j y0 y1 ((IntKind.i64.wrap (y2 + 1))) y3 y4 y5 y6 y7 y8 y9
  else
  f_u113_22 k j y0 y1 y2 y3 y4 y5 y6 y7 y8 y9
  else none
def f_u113_22 (k : Nat) : Nat → List (T15).T → List (T15).T → Int → Int → Int → Int → Int → Int → List (RTy.int IntKind.i64).T → List (T15).T → Option R_u113
  | 0, _, _, _, _, _, _, _, _, _, _ => none
  | j + 1, y0, y1, y2, y3, y4, y5, y6, y7, y8, y9 =>
  if (decide (y3 < (↑y1.length : Int)) = true → 0 ≤ y3) ∧ (decide (y3 < (↑y1.length : Int)) = true → y3 < (↑y1.length : Int)) then
  bif (decide (y3 < (↑y1.length : Int)) && decide ((y1.getD y3.toNat T15.dflt).2 ≤ y5)) then
  f_u113_22 k j y0 y1 y2 ((IntKind.i64.wrap (y3 + 1))) y4 y5 y6 y7 y8 y9
  else
  if ((IntKind.i64.wrap (y4 + (1 : Int)) == (↑y8.length : Int)) = false → (0 : Int) ≤ IntKind.i64.wrap (y4 + (1 : Int))) ∧ ((IntKind.i64.wrap (y4 + (1 : Int)) == (↑y8.length : Int)) = false → IntKind.i64.wrap (y4 + (1 : Int)) < (↑y8.length : Int)) then
  bif (IntKind.i64.wrap (y4 + (1 : Int)) == (↑y8.length : Int) || y8.getD (IntKind.i64.wrap (y4 + (1 : Int))).toNat (RTy.int IntKind.i64).dflt == y5) then
  f_u113_18 k j y0 y1 y2 y3 y6 ((IntKind.i64.wrap (y7 + 1))) y8 y9
  else
  if (decide (y2 < (↑y0.length : Int)) = true → 0 ≤ y2) ∧ (decide (y2 < (↑y0.length : Int)) = true → y2 < (↑y0.length : Int)) ∧ (decide (y3 < (↑y1.length : Int)) = true → 0 ≤ y3) ∧ (decide (y3 < (↑y1.length : Int)) = true → y3 < (↑y1.length : Int)) ∧ ((f_u109 k (decide (y2 < (↑y0.length : Int)) && decide ((y0.getD y2.toNat T15.dflt).1 ≤ y5)) (decide (y3 < (↑y1.length : Int)) && decide ((y1.getD y3.toNat T15.dflt).1 ≤ y5))).isSome = true) then
  bif (v_u109 k (decide (y2 < (↑y0.length : Int)) && decide ((y0.getD y2.toNat T15.dflt).1 ≤ y5)) (decide (y3 < (↑y1.length : Int)) && decide ((y1.getD y3.toNat T15.dflt).1 ≤ y5))) then
  if ((0 : Int) ≤ IntKind.i64.wrap (y4 + (1 : Int))) ∧ (IntKind.i64.wrap (y4 + (1 : Int)) < (↑y8.length : Int)) ∧ ((y9.length + [(y5, y8.getD (IntKind.i64.wrap (y4 + (1 : Int))).toNat (RTy.int IntKind.i64).dflt)].length) * (16 : Nat) ≤ (140737488355328 : Nat)) then
  f_u113_18 k j y0 y1 y2 y3 y6 ((IntKind.i64.wrap (y7 + 1))) y8 ((y9 ++ [(y5, y8.getD (IntKind.i64.wrap (y4 + 1)).toNat (RTy.int IntKind.i64).dflt)]))
  else none
  else
  f_u113_18 k j y0 y1 y2 y3 y6 ((IntKind.i64.wrap (y7 + 1))) y8 y9
  else none
  else none
  else none
def f_u113_28 (k : Nat) : Nat → List (T15).T → Option R_u113
  | 0, _ => none
  | j + 1, y0 =>
  if ((f_u111 k y0).isSome = true) then
  bif (decide ((↑ (List.length (v_u111 k y0)) : Int) > (256 : Int))) then
  some (([], 8))
  else
  some ((v_u111 k y0, 0))
  else none
end
def f_u113 (k : Nat) (t_ : List (T15).T) (o_ : List (T15).T) : Option R_u113 :=
  if ((f_u107 k t_).isSome = true) then
  bif (v_u107 k t_ != (0 : Int)) then
  some (([], v_u107 k t_))
  else
  if ((f_u107 k o_).isSome = true) then
  bif (v_u107 k o_ != (0 : Int)) then
  some (([], v_u107 k o_))
  else
  if ((f_u111 k t_).isSome = true) ∧ ((f_u111 k o_).isSome = true) then
  if ((f_u102 k [v_u111 k t_, v_u111 k o_]).isSome = true) then
  f_u113_10 k k ((v_u111 k t_)) ((v_u111 k o_)) ((↑ (List.length (v_u102 k [v_u111 k t_, v_u111 k o_])) : Int)) 0 ([]) ((v_u102 k [v_u111 k t_, v_u111 k o_]))
  else none
  else none
  else none
  else none
def v_u113 (k : Nat) (t_ : List (T15).T) (o_ : List (T15).T) : R_u113 := (f_u113 k t_ o_).getD ([], 0)
def ke_u113 (k : Nat) : Ke := (67, fun xs => match xs with
  | [_, _, .r (.v (.func (.func 68) _ _))] => some [false, false, false]
  | _ => none, fun xs bs => match xs, bs with
  | [.r (.ro tt__ qt_), .r (.ro to__ qo_), .r (.v (.func (.func 68) _ _))], [] => (castL tt__ T15 qt_).bind fun t_ => (castL to__ T15 qo_).bind fun o_ => some (.one (res_u113 (v_u113 k t_ o_), bo_u113 t_ o_ (v_u113 k t_ o_)))
  | _, _ => none)
def K_u113 (k : Nat) : Calld := mkK [ke_u107 k, ke_u111 k, ke_u102 k, ke_u105 k, ke_u109 k]
def cs_u113 : List (Nat × List Cmd) := [(10, [.row 10 3 I, .autoB [0, 1, 2, 10, 35, 36, 37] false []]), (18, [.row 13 86 T15, .autoB [0, 1, 2, 10, 13, 14, 15, 51, 52, 53] false []]), (20, [.autoB [0, 1, 2, 10, 13, 14, 15, 16, 17, 51, 52, 53] false []]), (22, [.autoB [0, 1, 2, 10, 13, 14, 15, 16, 17, 51, 52, 53] false []]), (28, [.frz 13 false (RTy.list T15), .autoB [13] false []])]
abbrev E_u113 (t_ : List (T15).T) (o_ : List (T15).T) (todo : List Item) (st : St) (o : Option R_u113) : Prop := ∀ r, o = some r → Ev Tryz.prog Tryz.f67 0 todo st (res_u113 r) (bo_u113 t_ o_ r)
theorem ev_u113 (k : Nat) (t_ : List (T15).T) (o_ : List (T15).T) : ∀ j, (∀ (y0 : List (T15).T) (y1 : List (T15).T) (y2 : Int) (y3 : Int) (y4 : List (I).T) (y5 : List (T15).T), E_u113 t_ o_ (placeAt Tryz.f67 10) (st_u113_10 y0 y1 y2 y3 y4 y5) (f_u113_10 k j y0 y1 y2 y3 y4 y5)) ∧ (∀ (y0 : List (T15).T) (y1 : List (T15).T) (y2 : Int) (y3 : Int) (y4 : Int) (y5 : Int) (y6 : List (RTy.int IntKind.i64).T) (y7 : List (T15).T), E_u113 t_ o_ (placeAt Tryz.f67 18) (st_u113_18 y0 y1 y2 y3 y4 y5 y6 y7) (f_u113_18 k j y0 y1 y2 y3 y4 y5 y6 y7)) ∧ (∀ (y0 : List (T15).T) (y1 : List (T15).T) (y2 : Int) (y3 : Int) (y4 : Int) (y5 : Int) (y6 : Int) (y7 : Int) (y8 : List (RTy.int IntKind.i64).T) (y9 : List (T15).T), E_u113 t_ o_ (placeAt Tryz.f67 20) (st_u113_20 y0 y1 y2 y3 y4 y5 y6 y7 y8 y9) (f_u113_20 k j y0 y1 y2 y3 y4 y5 y6 y7 y8 y9)) ∧ (∀ (y0 : List (T15).T) (y1 : List (T15).T) (y2 : Int) (y3 : Int) (y4 : Int) (y5 : Int) (y6 : Int) (y7 : Int) (y8 : List (RTy.int IntKind.i64).T) (y9 : List (T15).T), E_u113 t_ o_ (placeAt Tryz.f67 22) (st_u113_22 y0 y1 y2 y3 y4 y5 y6 y7 y8 y9) (f_u113_22 k j y0 y1 y2 y3 y4 y5 y6 y7 y8 y9)) ∧ (∀ (y0 : List (T15).T), E_u113 t_ o_ (placeAt Tryz.f67 28) (st_u113_28 y0) (f_u113_28 k j y0))
  | 0 => ⟨fun _ _ _ _ _ _ _ h => (nomatch h), fun _ _ _ _ _ _ _ _ _ h => (nomatch h), fun _ _ _ _ _ _ _ _ _ _ _ h => (nomatch h), fun _ _ _ _ _ _ _ _ _ _ _ h => (nomatch h), fun _ _ h => (nomatch h)⟩
  | j + 1 => by
    have ih := @ev_u113 k t_ o_ j
    refine ⟨?_, ?_, ?_, ?_, ?_⟩
    · intro y0 y1 y2 y3 y4 y5 r h
      rw [f_u113_10] at h
      exact go (K_u113 k) [28] cs_u113 [.frz 6 false (RTy.list T15), .autoB [6, 7] true []] (gT h (fun c h => gN2 h fun h => gN1 h id fun h => gC h 10 (ih.1 _ _ _ _ _ _ _)) fun c h => gN1 h (fun q => cc_u105 q) fun h => gC h 18 (ih.2.1 _ _ _ _ _ _ _ _ _)) (by kernel_rfl)
    · intro y0 y1 y2 y3 y4 y5 y6 y7 r h
      rw [f_u113_18] at h
      exact go (K_u113 k) [28] cs_u113 [.frz 6 false (RTy.list T15), .autoB [6, 7] true []] (gT h (fun c h => gN2 h fun h => gC h 20 (ih.2.2.1 _ _ _ _ _ _ _ _ _ _ _)) fun c h => gC h 28 (ih.2.2.2.2 _ _)) (by kernel_rfl)
    · intro y0 y1 y2 y3 y4 y5 y6 y7 y8 y9 r h
      rw [f_u113_20] at h
      exact go (K_u113 k) [28] cs_u113 [.frz 6 false (RTy.list T15), .autoB [6, 7] true []] (gN2 h fun h => gT h (fun c h => gC h 20 (ih.2.2.1 _ _ _ _ _ _ _ _ _ _ _)) fun c h => gC h 22 (ih.2.2.2.1 _ _ _ _ _ _ _ _ _ _ _)) (by kernel_rfl)
    · intro y0 y1 y2 y3 y4 y5 y6 y7 y8 y9 r h
      rw [f_u113_22] at h
      exact go (K_u113 k) [28] cs_u113 [.frz 6 false (RTy.list T15), .autoB [6, 7] true []] (gN2 h fun h => gT h (fun c h => gC h 22 (ih.2.2.2.1 _ _ _ _ _ _ _ _ _ _ _)) fun c h => gN2 h fun h => gT h (fun c h => gC h 18 (ih.2.1 _ _ _ _ _ _ _ _ _)) fun c h => gN h (fun q => conjC q.1 (conjC q.2.1 (conjC q.2.2.1 (conjC q.2.2.2.1 (conjC (cc_u109 q.2.2.2.2) conj0))))) fun h => gT h (fun c h => gN h (fun q => conjC q.1 (conjC q.2.1 (conjC q.2.2 conj0))) fun h => gC h 18 (ih.2.1 _ _ _ _ _ _ _ _ _)) fun c h => gC h 18 (ih.2.1 _ _ _ _ _ _ _ _ _)) (by kernel_rfl)
    · intro y0 r h
      rw [f_u113_28] at h
      exact go (K_u113 k) [28] cs_u113 [.frz 6 false (RTy.list T15), .autoB [6, 7] true []] (gN1 h (fun q => cc_u111 q) fun h => gT h (fun c h => gL h) fun c h => gL h) (by kernel_rfl)
theorem of_u113 (k : Nat) (t_ : List (T15).T) (o_ : List (T15).T) (r : R_u113) (h : f_u113 k t_ o_ = some r) : C_u113 t_ o_ r := by
  refine CC.of (fn := Tryz.f67) (by kernel_rfl) (by kernel_rfl) (by kernel_rfl) (by kernel_rfl) ?_
  unfold f_u113 at h
  exact go (K_u113 k) [28] cs_u113 [.frz 6 false (RTy.list T15), .autoB [6, 7] true []] (gN1 h (fun q => cc_u107 q) fun h => gT h (fun c h => gL h) fun c h => gN1 h (fun q => cc_u107 q) fun h => gT h (fun c h => gL h) fun c h => gN h (fun q => conjC (cc_u111 q.1) (conjC (cc_u111 q.2) conj0)) fun h => gN1 h (fun q => cc_u102 q) fun h => gC h 10 ((ev_u113 k t_ o_ k).1 _ _ _ _ _ _ _)) (by kernel_rfl)
theorem cc_u113 {k : Nat} {t_ : List (T15).T} {o_ : List (T15).T} (h : (f_u113 k t_ o_).isSome = true) : C_u113 t_ o_ (v_u113 k t_ o_) := ccG (Φ := C_u113 t_ o_) h (of_u113 k t_ o_)
abbrev R_u108 : Type := List (T15).T × Int
def res_u108 (r : R_u108) : AV := .tup [.r (.ro T15 r.1), .r (.v (.int .i64 r.2))]
def bo_u108 (l_ : List (T15).T) (r : R_u108) : List (Nat × Blk) := []
def args_u108 (l_ : List (T15).T) : List AV := [.r (.ro T15 l_)]
def bin_u108 (l_ : List (T15).T) : List Blk := []
abbrev C_u108 (l_ : List (T15).T) (r : R_u108) : Prop := CC Tryz.prog 45 (args_u108 l_) (bin_u108 l_) (res_u108 r) (bo_u108 l_ r)
def f_u108 (k : Nat) (l_ : List (T15).T) : Option R_u108 :=
  if ((f_u113 k l_ []).isSome = true) then
  some (((v_u113 k l_ []).1, (v_u113 k l_ []).2))
  else none
def v_u108 (k : Nat) (l_ : List (T15).T) : R_u108 := (f_u108 k l_).getD ([], 0)
def ke_u108 (k : Nat) : Ke := (45, fun xs => match xs with
  | [_] => some [false]
  | _ => none, fun xs bs => match xs, bs with
  | [.r (.ro tl__ ql_)], [] => (castL tl__ T15 ql_).bind fun l_ => some (.one (res_u108 (v_u108 k l_), bo_u108 l_ (v_u108 k l_)))
  | _, _ => none)
theorem of_u108 (k : Nat) (l_ : List (T15).T) (r : R_u108) (h : f_u108 k l_ = some r) : C_u108 l_ r := by
  refine CC.of (fn := Tryz.f45) (by kernel_rfl) (by kernel_rfl) (by kernel_rfl) (by kernel_rfl) ?_
  unfold f_u108 at h
  exact go (mkK [ke_u109 k, ke_u113 k]) [] [] [.frz 2 false (RTy.list T15), .autoB [2, 3] true []] (gN1 h (fun q => cc_u113 q) fun h => gL h) (by kernel_rfl)
theorem cc_u108 {k : Nat} {l_ : List (T15).T} (h : (f_u108 k l_).isSome = true) : C_u108 l_ (v_u108 k l_) := ccG (Φ := C_u108 l_) h (of_u108 k l_)
abbrev R_u22 : Type := List (T15).T × Int
def res_u22 (r : R_u22) : AV := .tup [.r (.ro T15 r.1), .r (.v (.int .i64 r.2))]
def bo_u22 (m_ : List (T0).T) (r : R_u22) : List (Nat × Blk) := []
def args_u22 (m_ : List (T0).T) : List AV := [.r (.ro T0 m_)]
def bin_u22 (m_ : List (T0).T) : List Blk := []
abbrev C_u22 (m_ : List (T0).T) (r : R_u22) : Prop := CC Tryz.prog 19 (args_u22 m_) (bin_u22 m_) (res_u22 r) (bo_u22 m_ r)
def st_u22_6 (y0 : List (T0).T) (y1 : Int) (y2 : Int) (y3 : List (T15).T) : St := ⟨mkS 29 [(5, .own 1000000 0), (13, .r (.ro T0 y0)), (14, .r (.v (.int .i64 y1))), (15, .r (.v (.int .i64 y2)))], [(1000000, 0, .row 86 T15 y3)]⟩
def st_u22_10 (y0 : List (T15).T) : St := ⟨mkS 29 [(5, .r (.ro T15 y0))], []⟩
mutual
def f_u22_6 (k : Nat) : Nat → List (T0).T → Int → Int → List (T15).T → Option R_u22
  | 0, _, _, _, _ => none
  | j + 1, y0, y1, y2, y3 =>
  bif (decide (y2 < y1)) then
  if (0 ≤ y2) ∧ (y2 < (↑y0.length : Int)) then
  if ((f_u30 k (y0.getD y2.toNat T0.dflt)).isSome = true) ∧ ((y3.length + [v_u30 k (y0.getD y2.toNat T0.dflt)].length) * (16 : Nat) ≤ (140737488355328 : Nat)) then
  f_u22_6 k j y0 y1 ((IntKind.i64.wrap (y2 + 1))) ((y3 ++ [v_u30 k (y0.getD y2.toNat T0.dflt)]))
  else none
  else none
  else
  f_u22_10 k j y3
def f_u22_10 (k : Nat) : Nat → List (T15).T → Option R_u22
  | 0, _ => none
  | j + 1, y0 =>
  if ((f_u108 k y0).isSome = true) then
  some (((v_u108 k y0).1, (v_u108 k y0).2))
  else none
end
def f_u22 (k : Nat) (m_ : List (T0).T) : Option R_u22 :=
  if ((f_u18 k m_).isSome = true) then
  bif (v_u18 k m_ != (0 : Int)) then
  some (([], v_u18 k m_))
  else
  f_u22_6 k k m_ ((↑m_.length : Int)) 0 ([])
  else none
def v_u22 (k : Nat) (m_ : List (T0).T) : R_u22 := (f_u22 k m_).getD ([], 0)
def ke_u22 (k : Nat) : Ke := (19, fun xs => match xs with
  | [_] => some [false]
  | _ => none, fun xs bs => match xs, bs with
  | [.r (.ro tm__ qm_)], [] => (castL tm__ T0 qm_).bind fun m_ => some (.one (res_u22 (v_u22 k m_), bo_u22 m_ (v_u22 k m_)))
  | _, _ => none)
def cs_u22 : List (Nat × List Cmd) := [(6, [.row 5 86 T15, .autoB [5, 13, 14, 15] false []]), (10, [.frz 5 false (RTy.list T15), .autoB [5] false []])]
abbrev E_u22 (m_ : List (T0).T) (todo : List Item) (st : St) (o : Option R_u22) : Prop := ∀ r, o = some r → Ev Tryz.prog Tryz.f19 0 todo st (res_u22 r) (bo_u22 m_ r)
theorem ev_u22 (k : Nat) (m_ : List (T0).T) : ∀ j, (∀ (y0 : List (T0).T) (y1 : Int) (y2 : Int) (y3 : List (T15).T), E_u22 m_ (placeAt Tryz.f19 6) (st_u22_6 y0 y1 y2 y3) (f_u22_6 k j y0 y1 y2 y3)) ∧ (∀ (y0 : List (T15).T), E_u22 m_ (placeAt Tryz.f19 10) (st_u22_10 y0) (f_u22_10 k j y0))
  | 0 => ⟨fun _ _ _ _ _ h => (nomatch h), fun _ _ h => (nomatch h)⟩
  | j + 1 => by
    have ih := @ev_u22 k m_ j
    refine ⟨?_, ?_⟩
    · intro y0 y1 y2 y3 r h
      rw [f_u22_6] at h
      exact go (mkK [ke_u18 k, ke_u30 k, ke_u108 k]) [10] cs_u22 [.frz 2 false (RTy.list T15), .autoB [2, 3] true []] (gT h (fun c h => gN2 h fun h => gN h (fun q => conjC (cc_u30 q.1) (conjC q.2 conj0)) fun h => gC h 6 (ih.1 _ _ _ _ _)) fun c h => gC h 10 (ih.2 _ _)) (by kernel_rfl)
    · intro y0 r h
      rw [f_u22_10] at h
      exact go (mkK [ke_u18 k, ke_u30 k, ke_u108 k]) [10] cs_u22 [.frz 2 false (RTy.list T15), .autoB [2, 3] true []] (gN1 h (fun q => cc_u108 q) fun h => gL h) (by kernel_rfl)
theorem of_u22 (k : Nat) (m_ : List (T0).T) (r : R_u22) (h : f_u22 k m_ = some r) : C_u22 m_ r := by
  refine CC.of (fn := Tryz.f19) (by kernel_rfl) (by kernel_rfl) (by kernel_rfl) (by kernel_rfl) ?_
  unfold f_u22 at h
  exact go (mkK [ke_u18 k, ke_u30 k, ke_u108 k]) [10] cs_u22 [.frz 2 false (RTy.list T15), .autoB [2, 3] true []] (gN1 h (fun q => cc_u18 q) fun h => gT h (fun c h => gL h) fun c h => gC h 6 ((ev_u22 k m_ k).1 _ _ _ _ _)) (by kernel_rfl)
theorem cc_u22 {k : Nat} {m_ : List (T0).T} (h : (f_u22 k m_).isSome = true) : C_u22 m_ (v_u22 k m_) := ccG (Φ := C_u22 m_) h (of_u22 k m_)
abbrev R_u110 : Type := Int × Int
def res_u110 (r : R_u110) : AV := .tup [.r (.v (.int .i64 r.1)), .r (.v (.int .i64 r.2))]
def bo_u110 (l_ : List (T15).T) (r : R_u110) : List (Nat × Blk) := []
def args_u110 (l_ : List (T15).T) : List AV := [.r (.ro T15 l_)]
def bin_u110 (l_ : List (T15).T) : List Blk := []
abbrev C_u110 (l_ : List (T15).T) (r : R_u110) : Prop := CC Tryz.prog 115 (args_u110 l_) (bin_u110 l_) (res_u110 r) (bo_u110 l_ r)
def st_u110_6 (y0 : Int) (y1 : List (T15).T) (y2 : Int) (y3 : Int) : St := ⟨mkS 29 [(5, .r (.v (.int .i64 y0))), (14, .r (.ro T15 y1)), (15, .r (.v (.int .i64 y2))), (16, .r (.v (.int .i64 y3)))], []⟩
def f_u110_6 (k : Nat) : Nat → Int → List (T15).T → Int → Int → Option R_u110
  | 0, _, _, _, _ => none
  | j + 1, y0, y1, y2, y3 =>
  bif (decide (y3 < y2)) then
  if (0 ≤ y3) ∧ (y3 < (↑y1.length : Int)) then
  f_u110_6 k j ((IntKind.i64.wrap (y0 + IntKind.i64.wrap ((y1.getD y3.toNat T15.dflt).2 - (y1.getD y3.toNat T15.dflt).1)))) y1 y2 ((IntKind.i64.wrap (y3 + 1)))
  else none
  else
  some ((y0, 0))
def f_u110 (k : Nat) (l_ : List (T15).T) : Option R_u110 :=
  if ((f_u107 k l_).isSome = true) then
  bif (v_u107 k l_ != (0 : Int)) then
  some ((0, v_u107 k l_))
  else
  if ((f_u111 k l_).isSome = true) then
  f_u110_6 k k 0 ((v_u111 k l_)) ((↑ (List.length (v_u111 k l_)) : Int)) 0
  else none
  else none
def v_u110 (k : Nat) (l_ : List (T15).T) : R_u110 := (f_u110 k l_).getD (0, 0)
def ke_u110 (k : Nat) : Ke := (115, fun xs => match xs with
  | [_] => some [false]
  | _ => none, fun xs bs => match xs, bs with
  | [.r (.ro tl__ ql_)], [] => (castL tl__ T15 ql_).bind fun l_ => some (.one (res_u110 (v_u110 k l_), bo_u110 l_ (v_u110 k l_)))
  | _, _ => none)
def cs_u110 : List (Nat × List Cmd) := [(6, [.autoB [5, 14, 15, 16] false []])]
abbrev E_u110 (l_ : List (T15).T) (todo : List Item) (st : St) (o : Option R_u110) : Prop := ∀ r, o = some r → Ev Tryz.prog Tryz.f115 0 todo st (res_u110 r) (bo_u110 l_ r)
theorem ev_u110 (k : Nat) (l_ : List (T15).T) : ∀ j, (∀ (y0 : Int) (y1 : List (T15).T) (y2 : Int) (y3 : Int), E_u110 l_ (placeAt Tryz.f115 6) (st_u110_6 y0 y1 y2 y3) (f_u110_6 k j y0 y1 y2 y3))
  | 0 => fun _ _ _ _ _ h => (nomatch h)
  | j + 1 => by
    have ih := @ev_u110 k l_ j
    · intro y0 y1 y2 y3 r h
      rw [f_u110_6] at h
      exact go (mkK [ke_u107 k, ke_u111 k]) [] cs_u110 [.autoB [2, 3] true []] (gT h (fun c h => gN2 h fun h => gC h 6 (ih _ _ _ _ _)) fun c h => gL h) (by kernel_rfl)
theorem of_u110 (k : Nat) (l_ : List (T15).T) (r : R_u110) (h : f_u110 k l_ = some r) : C_u110 l_ r := by
  refine CC.of (fn := Tryz.f115) (by kernel_rfl) (by kernel_rfl) (by kernel_rfl) (by kernel_rfl) ?_
  unfold f_u110 at h
  exact go (mkK [ke_u107 k, ke_u111 k]) [] cs_u110 [.autoB [2, 3] true []] (gN1 h (fun q => cc_u107 q) fun h => gT h (fun c h => gL h) fun c h => gN1 h (fun q => cc_u111 q) fun h => gC h 6 ((ev_u110 k l_ k) _ _ _ _ _)) (by kernel_rfl)
theorem cc_u110 {k : Nat} {l_ : List (T15).T} (h : (f_u110 k l_).isSome = true) : C_u110 l_ (v_u110 k l_) := ccG (Φ := C_u110 l_) h (of_u110 k l_)
abbrev R_u24 : Type := Bool
def res_u24 (r : R_u24) : AV := .r (.v (.bool r))
def bo_u24 (m_ : List (T0).T) (r : R_u24) : List (Nat × Blk) := []
def args_u24 (m_ : List (T0).T) : List AV := [.r (.ro T0 m_)]
def bin_u24 (m_ : List (T0).T) : List Blk := []
abbrev C_u24 (m_ : List (T0).T) (r : R_u24) : Prop := CC Tryz.prog 102 (args_u24 m_) (bin_u24 m_) (res_u24 r) (bo_u24 m_ r)
def f_u24 (k : Nat) (m_ : List (T0).T) : Option R_u24 :=
  if ((f_u22 k m_).isSome = true) then
  bif ((v_u22 k m_).2 != (0 : Int)) then
  some false
  else
  if ((f_u110 k (v_u22 k m_).1).isSome = true) then
  bif ((v_u110 k (v_u22 k m_).1).2 == (0 : Int)) then
  if (((v_u110 k (v_u22 k m_).1).2 == (0 : Int)) = true) ∧ ((f_u31 k m_).isSome = true) then
  some (true && (v_u110 k (v_u22 k m_).1).1 == v_u31 k m_)
  else none
  else
  if (((v_u110 k (v_u22 k m_).1).2 == (0 : Int)) = false) then
  some false
  else none
  else none
  else none
def v_u24 (k : Nat) (m_ : List (T0).T) : R_u24 := (f_u24 k m_).getD false
def ke_u24 (k : Nat) : Ke := (102, fun xs => match xs with
  | [_] => some [false]
  | _ => none, fun xs bs => match xs, bs with
  | [.r (.ro tm__ qm_)], [] => (castL tm__ T0 qm_).bind fun m_ => some (.one (res_u24 (v_u24 k m_), bo_u24 m_ (v_u24 k m_)))
  | _, _ => none)
theorem of_u24 (k : Nat) (m_ : List (T0).T) (r : R_u24) (h : f_u24 k m_ = some r) : C_u24 m_ r := by
  refine CC.of (fn := Tryz.f102) (by kernel_rfl) (by kernel_rfl) (by kernel_rfl) (by kernel_rfl) ?_
  unfold f_u24 at h
  exact go (mkK [ke_u31 k, ke_u22 k, ke_u110 k]) [] [] [.autoB [2] true []] (gN1 h (fun q => cc_u22 q) fun h => gT h (fun c h => gL h) fun c h => gN1 h (fun q => cc_u110 q) fun h => gT h (fun c h => gN h (fun q => conjC q.1 (conjC (cc_u31 q.2) conj0)) fun h => gL h) fun c h => gN1 h id fun h => gL h) (by kernel_rfl)
theorem cc_u24 {k : Nat} {m_ : List (T0).T} (h : (f_u24 k m_).isSome = true) : C_u24 m_ (v_u24 k m_) := ccG (Φ := C_u24 m_) h (of_u24 k m_)
end
end Go.AM
namespace Go.AM
open Go Go.Proofs
noncomputable section
end
end Go.AM
namespace Go.AM
open Go Go.Proofs
noncomputable section
end
end Go.AM
namespace Go.AM
open Go Go.Proofs
noncomputable section
end
end Go.AM
namespace Go.AM
open Go Go.Proofs
noncomputable section
end
end Go.AM
namespace Go.AM
open Go Go.Proofs
noncomputable section
end
end Go.AM
namespace Go.AM
open Go Go.Proofs
noncomputable section
end
end Go.AM
namespace Go.AM
open Go Go.Proofs
noncomputable section
end
end Go.AM
namespace Go.AM
open Go Go.Proofs
noncomputable section
end
end Go.AM
namespace Go.AM
open Go Go.Proofs
noncomputable section
end
end Go.AM
namespace Go.AM
open Go Go.Proofs
noncomputable section
end
end Go.AM
namespace Go.AM
open Go Go.Proofs
noncomputable section
end
end Go.AM
namespace Go.AM
open Go Go.Proofs
noncomputable section
end
end Go.AM
namespace Go.AM
open Go Go.Proofs
noncomputable section
end
end Go.AM
namespace Go.AM
open Go Go.Proofs
noncomputable section
end
end Go.AM
namespace Go.AM
open Go Go.Proofs
noncomputable section
end
end Go.AM
namespace Go.AM
open Go Go.Proofs
noncomputable section
end
end Go.AM
namespace Go.AM
open Go Go.Proofs
noncomputable section
end
end Go.AM
namespace Go.AM
open Go Go.Proofs
noncomputable section
end
/-! ### maps: the program's functions and the reference's -/
theorem iso_image_s (k : Nat) (r : Rn) (x : Int) (h1 : -4611686018427387904 ≤ r.1) (h2 : r.1 ≤ 4611686018427387903) (h3 : -4611686018427387904 ≤ x) (h4 : x ≤ 4611686018427387903) : f_u29 k r x = some (img r x) := by
  unfold f_u29 img
  cases r.2.2
  · rw [cond_false, wrap_id (by omega) (by omega), if_neg (by decide)]
  · rw [cond_true, wrap_id (by omega) (by omega), if_pos rfl]
theorem iso_image_v (k : Nat) (r : Rn) (x : Int) (h1 : -4611686018427387904 ≤ r.1) (h2 : r.1 ≤ 4611686018427387903) (h3 : -4611686018427387904 ≤ x) (h4 : x ≤ 4611686018427387903) : v_u29 k r x = img r x := by
  unfold v_u29; rw [iso_image_s k r x h1 h2 h3 h4]; rfl
/-- a test of a run alone, as the program has it -/
theorem good_test {r : Rn} : good r ↔ ¬ ((decide (r.2.1 < 1) || decide (r.2.1 > 17179869184) || decide (r.1 < 0) || decide (r.1 ≥ 17179869184)) = true) ∧ ¬ ((r.2.2 && decide (r.1 - r.2.1 + 1 < 0) || (!r.2.2) && decide (r.1 + r.2.1 > 17179869184)) = true) := by
  unfold good
  simp only [Bool.or_eq_true, decide_eq_true_eq, Bool.and_eq_true, Bool.not_eq_true', not_or, not_and]
  constructor
  · rintro ⟨h1, h2, h3, h4, h5, h6⟩
    refine ⟨⟨⟨⟨by omega, by omega⟩, by omega⟩, by omega⟩, fun h => ?_, fun h => ?_⟩
    · have := h5 h; omega
    · have := h6 h; omega
  · rintro ⟨⟨⟨⟨h1, h2⟩, h3⟩, h4⟩, h5, h6⟩
    refine ⟨by omega, by omega, by omega, by omega, fun h => ?_, fun h => ?_⟩
    · have := h5 h; omega
    · have := h6 h; omega

/-- the error of a map, run by run -/
def chkGo : Int → List Rn → Int
  | n, [] => if n > 17179869184 then 21 else 0
  | n, r :: t => if good r then chkGo (n + r.2.1) t else 1
theorem chkGo_eq : ∀ (m : List Rn) (n : Int), chkGo n m = if goods m then (if n + lenS m > 17179869184 then 21 else 0) else 1
  | [], n => by simp [chkGo, goods, lenS]
  | r :: t, n => by
    unfold chkGo
    by_cases h : good r
    · rw [if_pos h, chkGo_eq t]
      by_cases h2 : goods t
      · rw [if_pos h2, if_pos (show goods (r :: t) from ⟨h, h2⟩)]
        rw [show n + lenS (r :: t) = n + r.2.1 + lenS t by simp only [lenS]; omega]
      · rw [if_neg h2, if_neg (fun h3 : goods (r :: t) => h2 h3.2)]
    · rw [if_neg h, if_neg (fun h3 : goods (r :: t) => h h3.1)]
theorem chk_go (m : List Rn) : chk m = if m.length > 256 then 8 else chkGo 0 m := by
  unfold chk; rw [chkGo_eq, Int.zero_add]

theorem iso_Check_l (k : Nat) (m : List Rn) (hm : m.length ≤ 256) : ∀ (j i : Nat) (n : Int), i ≤ m.length → m.length - i < j → 0 ≤ n → n ≤ (i : Int) * 17179869184 →
    f_u18_5 k j n m (m.length : Int) (i : Int) = some (chkGo n (m.drop i)) := by
  intro j
  induction j with
  | zero => intros; omega
  | succ j ih =>
    intro i n hi hj h0 hn
    unfold f_u18_5
    by_cases h : i < m.length
    · rw [decide_eq_true (by omega : (i : Int) < (m.length : Int)), cond_true, if_pos ⟨by omega, by omega⟩, drop_cons' m i T0.dflt h]
      rw [Int.toNat_natCast]
      unfold chkGo
      by_cases hg : good (m.getD i T0.dflt)
      · obtain ⟨t1, t2⟩ := good_test.1 hg
        have hr := hg
        obtain ⟨g1, g2, g3, g4, _, _⟩ := hr
        rw [if_pos hg, Bool.eq_false_iff.2 t1, cond_false, wrap_id (i := (m.getD i T0.dflt).fst - (m.getD i T0.dflt).snd.fst) (by omega) (by omega), wrap_id (i := (m.getD i T0.dflt).fst - (m.getD i T0.dflt).snd.fst + 1) (by omega) (by omega), wrap_id (i := (m.getD i T0.dflt).fst + (m.getD i T0.dflt).snd.fst) (by omega) (by omega), Bool.eq_false_iff.2 t2, cond_false, wrap_id (i := n + (m.getD i T0.dflt).snd.fst) (by omega) (by omega), wrapS i (by omega)]
        exact ih (i + 1) _ (by omega) (by omega) (by omega) (by omega)
      · rw [if_neg hg]
        by_cases t1 : (decide ((m.getD i T0.dflt).2.1 < 1) || decide ((m.getD i T0.dflt).2.1 > 17179869184) || decide ((m.getD i T0.dflt).1 < 0) || decide ((m.getD i T0.dflt).1 ≥ 17179869184)) = true
        · rw [t1, cond_true]
        · have t2 := fun t2 => hg (good_test.2 ⟨t1, t2⟩)
          have t2 := Classical.not_not.1 t2
          have t3 := t1
          simp only [Bool.or_eq_true, decide_eq_true_eq, not_or] at t3
          obtain ⟨⟨⟨q1, q2⟩, q3⟩, q4⟩ := t3
          rw [Bool.eq_false_iff.2 t1, cond_false, wrap_id (i := (m.getD i T0.dflt).fst - (m.getD i T0.dflt).snd.fst) (by omega) (by omega), wrap_id (i := (m.getD i T0.dflt).fst - (m.getD i T0.dflt).snd.fst + 1) (by omega) (by omega), wrap_id (i := (m.getD i T0.dflt).fst + (m.getD i T0.dflt).snd.fst) (by omega) (by omega), t2, cond_true]
    · rw [decide_eq_false (by omega : ¬ (i : Int) < (m.length : Int)), cond_false, drop_all m i (by omega)]
      unfold chkGo
      by_cases h : n > 17179869184
      · rw [decide_eq_true h, cond_true, if_pos h]
      · rw [decide_eq_false h, cond_false, if_neg h]
theorem iso_Check_s (k : Nat) (hk : 300 ≤ k) (m : List Rn) : f_u18 k m = some (chk m) := by
  unfold f_u18
  rw [chk_go]
  by_cases h : m.length > 256
  · rw [decide_eq_true (by omega : (m.length : Int) > 256), cond_true, if_pos h]
  · rw [decide_eq_false (by omega : ¬ (m.length : Int) > 256), cond_false, if_neg h]
    exact iso_Check_l k m (by omega) k 0 0 (by omega) (by omega) (by omega) (by omega)
theorem iso_Check_v (k : Nat) (hk : 300 ≤ k) (m : List Rn) : v_u18 k m = chk m := by
  unfold v_u18; rw [iso_Check_s k hk]; rfl

theorem iso_length_l (k : Nat) (m : List Rn) (hg : goods m) (hm : m.length ≤ 1000) : ∀ (j i : Nat) (n : Int), i ≤ m.length → m.length - i < j → 0 ≤ n → n ≤ (i : Int) * 17179869184 →
    f_u31_3 k j n m (m.length : Int) (i : Int) = some (n + lenS (m.drop i)) := by
  intro j
  induction j with
  | zero => intros; omega
  | succ j ih =>
    intro i n hi hj h0 hn
    unfold f_u31_3
    by_cases h : i < m.length
    · have hgr : good (m.getD i T0.dflt) := hg.mem _ (by simp [h])
      rw [decide_eq_true (by omega : (i : Int) < (m.length : Int)), cond_true, if_pos ⟨by omega, by omega⟩, drop_cons' m i T0.dflt h]
      rw [Int.toNat_natCast]
      generalize m.getD i T0.dflt = r at hgr
      obtain ⟨g1, g2, _⟩ := hgr
      rw [wrap_id (i := n + r.snd.fst) (by omega) (by omega), wrapS i (by omega), ih (i + 1) _ (by omega) (by omega) (by omega) (by omega)]
      simp only [lenS, Int.add_assoc]
    · rw [decide_eq_false (by omega : ¬ (i : Int) < (m.length : Int)), cond_false, drop_all m i (by omega)]
      simp [lenS]
theorem iso_length_s (k : Nat) (m : List Rn) (hg : goods m) (hm : m.length ≤ 1000) (hk : m.length < k) : f_u31 k m = some (lenS m) := by
  unfold f_u31
  have := iso_length_l k m hg hm k 0 0 (by omega) (by omega) (by omega) (by omega)
  rw [Int.zero_add] at this
  exact this
theorem iso_length_v (k : Nat) (m : List Rn) (hg : goods m) (hm : m.length ≤ 1000) (hk : m.length < k) : v_u31 k m = lenS m := by
  unfold v_u31; rw [iso_length_s k m hg hm hk]; rfl

/-! ### a normal form with a further run -/
/-- runs of moderate numbers -/
def Bnd (r : Rn) : Prop := -1125899906842624 ≤ r.1 ∧ r.1 ≤ 1125899906842624 ∧ 0 ≤ r.2.1 ∧ r.2.1 ≤ 1125899906842624
theorem good.bnd {r : Rn} (h : good r) : Bnd r := by
  obtain ⟨h1, h2, h3, h4, _⟩ := h
  exact ⟨by omega, by omega, by omega, by omega⟩

theorem addS_nil (r : Rn) (h : ¬ r.2.1 < 1) : addS [] r = [prt r 0 r.2.1] := by
  unfold addS; rw [if_neg h]; rfl
theorem addS_last (pre : List Rn) (c r : Rn) (h : ¬ r.2.1 < 1) : addS (pre ++ [c]) r = (bif apart c r then pre ++ [c] ++ [prt r 0 r.2.1]
      else bif decide (r.2.1 > 1) && !(r.2.2 == (stp c r == -1)) then pre ++ [(c.1, c.2.1 + 1, stp c r == -1), prt r 1 (r.2.1 - 1)]
      else pre ++ [(c.1, c.2.1 + r.2.1, stp c r == -1)]) := by
  unfold addS; rw [if_neg h]; simp
theorem addS_zero (b : List Rn) (r : Rn) (h : r.2.1 < 1) : addS b r = b := by unfold addS; rw [if_pos h]

theorem prt_zero (r : Rn) (n : Int) : prt (prt r 1 n) 0 n = prt r 1 n := by
  unfold prt
  have e : img (img r 1, n, r.2.2 && decide (n > 1)) 0 = img r 1 := by
    unfold img; cases r.2.2 && decide (n > 1) <;> simp
  rw [e]
  simp
theorem prt_bnd {r : Rn} (h : Bnd r) {x n : Int} (h0 : 0 ≤ x) (h1 : x ≤ r.2.1) (h2 : 0 ≤ n) (h3 : n ≤ r.2.1) : -2251799813685248 ≤ (prt r x n).1 ∧ (prt r x n).1 ≤ 2251799813685248 ∧ (prt r x n).2.1 = n := by
  obtain ⟨b1, b2, b3, b4⟩ := h
  unfold prt img
  refine ⟨?_, ?_, rfl⟩ <;> cases r.2.2 <;> simp only [Bool.false_eq_true, if_false, if_true] <;> omega

theorem apart_turn {c r : Rn} (hc : 1 ≤ c.2.1) (h1 : apart c r = false) (h3 : (r.2.2 == (stp c r == -1)) = false) : apart (c.1, c.2.1 + 1, stp c r == -1) (prt r 1 (r.2.1 - 1)) = true := by
  obtain ⟨ca, cl, cb⟩ := c
  obtain ⟨ra, rl, rb⟩ := r
  unfold apart at h1
  simp only [Bool.or_eq_false_iff] at h1
  obtain ⟨h1, h2⟩ := h1
  have hs : stp (ca, cl, cb) (ra, rl, rb) = 1 ∨ stp (ca, cl, cb) (ra, rl, rb) = -1 := by
    generalize stp (ca, cl, cb) (ra, rl, rb) = s at h1
    by_cases e1 : s = 1
    · exact .inl e1
    · by_cases e2 : s = -1
      · exact .inr e2
      · simp [e1, e2] at h1
  have hcl : (1 : Int) ≤ cl := hc
  unfold apart
  rw [Bool.or_eq_true]
  right
  rw [Bool.and_eq_true]
  refine ⟨decide_eq_true (show cl + 1 > 1 by omega), ?_⟩
  rcases hs with hs | hs
  · rw [hs] at h2 h3
    have hrb : rb = true := by cases rb <;> simp_all
    subst hrb
    have hcb : cl > 1 → cb = false := fun h => by
      rw [decide_eq_true (show (ca, cl, cb).2.1 > 1 from h), Bool.true_and] at h2
      cases cb
      · rfl
      · simp at h2
    rw [hs]
    have e : stp (ca, cl + 1, (1 : Int) == -1) (prt (ra, rl, true) 1 (rl - 1)) = -1 := by
      unfold stp img at hs
      unfold stp prt img
      simp only [show ((1 : Int) == -1) = false from rfl, Bool.false_eq_true, if_false, if_true] at hs ⊢
      by_cases hl : cl > 1
      · rw [hcb hl] at hs; simp only [Bool.false_eq_true, if_false] at hs; omega
      · cases cb <;> simp only [Bool.false_eq_true, if_false, if_true] at hs <;> omega
    show (!((stp (ca, cl + 1, (1 : Int) == -1) (prt (ra, rl, true) 1 (rl - 1)) == -1) == ((1 : Int) == -1))) = true
    rw [e]; rfl
  · rw [hs] at h2 h3
    have hrb : rb = false := by cases rb <;> simp_all
    subst hrb
    have hcb : cl > 1 → cb = true := fun h => by
      rw [decide_eq_true (show (ca, cl, cb).2.1 > 1 from h), Bool.true_and] at h2
      cases cb
      · simp at h2
      · rfl
    rw [hs]
    have e : stp (ca, cl + 1, (-1 : Int) == -1) (prt (ra, rl, false) 1 (rl - 1)) = 1 := by
      unfold stp img at hs
      unfold stp prt img
      simp only [show ((-1 : Int) == -1) = true from rfl, Bool.false_eq_true, if_false, if_true] at hs ⊢
      by_cases hl : cl > 1
      · rw [hcb hl] at hs; simp only [if_true] at hs; omega
      · cases cb <;> simp only [Bool.false_eq_true, if_false, if_true] at hs <;> omega
    show (!((stp (ca, cl + 1, (-1 : Int) == -1) (prt (ra, rl, false) 1 (rl - 1)) == -1) == ((-1 : Int) == -1))) = true
    rw [e]; rfl

theorem iso_part_s (k : Nat) (r : Rn) (x n : Int) (h1 : -4611686018427387904 ≤ r.1) (h2 : r.1 ≤ 4611686018427387903) (h3 : -4611686018427387904 ≤ x) (h4 : x ≤ 4611686018427387903) : f_u32 k r x n = some (prt r x n) := by
  unfold f_u32 prt
  rw [iso_image_s k r x h1 h2 h3 h4, iso_image_v k r x h1 h2 h3 h4]; rfl
theorem iso_part_v (k : Nat) (r : Rn) (x n : Int) (h1 : -4611686018427387904 ≤ r.1) (h2 : r.1 ≤ 4611686018427387903) (h3 : -4611686018427387904 ≤ x) (h4 : x ≤ 4611686018427387903) : v_u32 k r x n = prt r x n := by
  unfold v_u32; rw [iso_part_s k r x n h1 h2 h3 h4]; rfl
theorem last_idx (pre : List Rn) (c : Rn) (h : pre.length < 4611686018427387904) : (IntKind.i64.wrap (((pre ++ [c]).length : Int) - 1)).toNat = pre.length := by
  rw [List.length_append, List.length_singleton, wrap_id (by omega) (by omega)]; omega
theorem last_get (pre : List Rn) (c d : Rn) : (pre ++ [c]).getD pre.length d = c := by simp
theorem last_set (pre : List Rn) (c d : Rn) : (pre ++ [c]).set pre.length d = pre ++ [d] := by simp

/-- adding where the run begins anew -/
theorem iso_add_new (k : Nat) (pre : List Rn) (c r : Rn) (hl : pre.length ≤ 1000000000) (hr : ¬ r.2.1 < 1) (b1 : -9007199254740992 ≤ r.1 ∧ r.1 ≤ 9007199254740992) (hc : -9007199254740992 ≤ c.1 ∧ c.1 ≤ 9007199254740992 ∧ 1 ≤ c.2.1 ∧ c.2.1 ≤ 9007199254740992) (ha : apart c r = true) :
    f_u25 (k + 1) (pre ++ [c]) r = some (pre ++ [c] ++ [prt r 0 r.2.1]) := by
  have hi := last_idx pre c (by omega)
  have hlen : (pre ++ [c]).length = pre.length + 1 := by simp
  have hst : IntKind.i64.wrap (r.fst - img c (c.snd.fst - 1)) = stp c r := by
    unfold stp
    refine wrap_id ?_ ?_ <;> unfold img <;> cases c.2.2 <;> simp only [Bool.false_eq_true, if_false, if_true] <;> omega
  unfold f_u25
  rw [decide_eq_false hr, cond_false, show (((pre ++ [c]).length : Int) == 0) = false by rw [hlen]; exact beqf (by omega), cond_false, hi, last_get]
  rw [wrap_id (i := c.snd.fst - 1) (by omega) (by omega), iso_image_s k c _ (by omega) (by omega) (by omega) (by omega), iso_image_v k c _ (by omega) (by omega) (by omega) (by omega), hst]
  rw [if_pos (by rw [hlen, wrap_id (by omega) (by omega)]; exact ⟨by omega, by omega⟩), Option.isSome_some, if_pos rfl]
  have ha' : ((stp c r != 1 && stp c r != -1) || decide (c.snd.fst > 1) && !((stp c r == -1) == c.snd.snd)) = true := ha
  rw [ha', cond_true, iso_part_s k r 0 _ (by omega) (by omega) (by omega) (by omega), iso_part_v k r 0 _ (by omega) (by omega) (by omega) (by omega), if_pos ⟨rfl, by rw [hlen, List.length_singleton]; omega⟩]

theorem iso_add_s (k : Nat) (hk : 4 ≤ k) (b : List Rn) (r : Rn) (hl : b.length ≤ 1000000000) (hr : Bnd r) (hb : ∀ c ∈ b, Bnd c ∧ 1 ≤ c.2.1) : f_u25 k b r = some (addS b r) := by
  obtain ⟨k, rfl⟩ : ∃ m, k = m + 1 := ⟨k - 1, by omega⟩
  obtain ⟨r1, r2, r3, r4⟩ := hr
  by_cases h0 : r.2.1 < 1
  · rw [addS_zero _ _ h0]; unfold f_u25; rw [decide_eq_true h0, cond_true]
  rcases List.eq_nil_or_concat b with rfl | ⟨pre, c, rfl⟩
  · rw [addS_nil _ h0]
    unfold f_u25
    rw [decide_eq_false h0, cond_false, show ((([] : List Rn).length : Int) == 0) = true from rfl, cond_true, iso_part_s k r 0 _ (by omega) (by omega) (by omega) (by omega), iso_part_v k r 0 _ (by omega) (by omega) (by omega) (by omega), if_pos ⟨rfl, by simp⟩]
    rfl
  rw [List.concat_eq_append] at *
  obtain ⟨⟨c1, c2, c3, c4⟩, c5⟩ := hb c (by simp)
  have hlen : (pre ++ [c]).length = pre.length + 1 := by simp
  rw [addS_last _ _ _ h0]
  cases ha : apart c r with
  | true =>
    rw [cond_true]
    exact iso_add_new k pre c r (by omega) h0 ⟨by omega, by omega⟩ ⟨by omega, by omega, by omega, by omega⟩ ha
  | false =>
  rw [cond_false]
  have hi := last_idx pre c (by omega)
  have hst : IntKind.i64.wrap (r.fst - img c (c.snd.fst - 1)) = stp c r := by
    unfold stp
    refine wrap_id ?_ ?_ <;> unfold img <;> cases c.2.2 <;> simp only [Bool.false_eq_true, if_false, if_true] <;> omega
  have ha' : ((stp c r != 1 && stp c r != -1) || decide (c.snd.fst > 1) && !((stp c r == -1) == c.snd.snd)) = false := ha
  unfold f_u25
  rw [decide_eq_false h0, cond_false, show (((pre ++ [c]).length : Int) == 0) = false by rw [hlen]; exact beqf (by omega), cond_false, hi, last_get]
  rw [wrap_id (i := c.snd.fst - 1) (by omega) (by omega), iso_image_s k c _ (by omega) (by omega) (by omega) (by omega), iso_image_v k c _ (by omega) (by omega) (by omega) (by omega), hst]
  have hidx : (0 : Int) ≤ IntKind.i64.wrap (((pre ++ [c]).length : Int) - 1) ∧ IntKind.i64.wrap (((pre ++ [c]).length : Int) - 1) < ((pre ++ [c]).length : Int) := by
    rw [hlen, wrap_id (by omega) (by omega)]; exact ⟨by omega, by omega⟩
  rw [if_pos hidx, Option.isSome_some, if_pos rfl, ha', cond_false]
  rw [wrap_id (i := c.snd.fst + r.snd.fst) (by omega) (by omega), wrap_id (i := c.snd.fst + 1) (by omega) (by omega), wrap_id (i := r.snd.fst - r.snd.fst) (by omega) (by omega), wrap_id (i := r.snd.fst - 1) (by omega) (by omega), last_set, last_set]
  rw [iso_part_s k r r.snd.fst _ (by omega) (by omega) (by omega) (by omega), iso_part_v k r r.snd.fst _ (by omega) (by omega) (by omega) (by omega), iso_part_s k r 1 _ (by omega) (by omega) (by omega) (by omega), iso_part_v k r 1 _ (by omega) (by omega) (by omega) (by omega)]
  obtain ⟨k, rfl⟩ : ∃ m, k = m + 1 := ⟨k - 1, by omega⟩
  have z : ∀ (b : List Rn) (r : Rn), r.2.1 < 1 → f_u25 (k + 1) b r = some b := fun b r h => by
    unfold f_u25; rw [decide_eq_true h, cond_true]
  have w : ∀ (b b' : List Rn) (r : Rn), f_u25 (k + 1) b r = some b' → w_u25 (f_u25 (k + 1)) b r = b' := fun b b' r h => by
    unfold w_u25; rw [h]; rfl
  by_cases hone : r.2.1 > 1
  · rw [decide_eq_true hone, Bool.true_and, Bool.true_and]
    cases hd : (r.snd.snd == (stp c r == -1)) with
    | true =>
      rw [cond_true, Bool.not_true, cond_false, if_pos hidx]
      have e := z (pre ++ [(c.fst, c.snd.fst + r.snd.fst, stp c r == -1)]) (prt r r.snd.fst (r.snd.fst - r.snd.fst)) (by show r.snd.fst - r.snd.fst < 1; omega)
      rw [w _ _ _ e, e, if_pos ⟨rfl, rfl⟩]
    | false =>
      rw [cond_false, Bool.not_false, cond_true, if_pos hidx]
      obtain ⟨p1, p2, p3⟩ := prt_bnd (r := r) ⟨r1, r2, r3, r4⟩ (x := 1) (n := r.2.1 - 1) (by omega) (by omega) (by omega) (by omega)
      have e := iso_add_new k pre (c.fst, c.snd.fst + 1, stp c r == -1) (prt r 1 (r.snd.fst - 1)) (by omega) (by rw [p3]; omega) ⟨by omega, by omega⟩ ⟨by show -9007199254740992 ≤ c.1; omega, by show c.1 ≤ 9007199254740992; omega, by show 1 ≤ c.2.1 + 1; omega, by show c.2.1 + 1 ≤ 9007199254740992; omega⟩ (apart_turn c5 ha hd)
      rw [p3, prt_zero] at e
      rw [w _ _ _ e, e, if_pos ⟨rfl, rfl⟩]
      simp
  · have h1 : r.2.1 = 1 := by omega
    rw [decide_eq_false hone, Bool.false_and, Bool.false_and, cond_false, cond_false, if_pos hidx]
    have e := z (pre ++ [(c.fst, c.snd.fst + 1, stp c r == -1)]) (prt r 1 (r.snd.fst - 1)) (by show r.snd.fst - 1 < 1; omega)
    rw [w _ _ _ e, e, if_pos ⟨rfl, rfl⟩, h1]
theorem iso_add_v (k : Nat) (hk : 4 ≤ k) (b : List Rn) (r : Rn) (hl : b.length ≤ 1000000000) (hr : Bnd r) (hb : ∀ c ∈ b, Bnd c ∧ 1 ≤ c.2.1) : v_u25 k b r = addS b r := by
  unfold v_u25; rw [iso_add_s k hk b r hl hr hb]; rfl
end Go.AM
namespace Go.AM
open Go Go.Proofs
noncomputable section
abbrev R_u3 : Type := Bool
def res_u3 (r : R_u3) : AV := .r (.v (.bool r))
def bo_u3 (core_ : Int) (caliper_ : Int) (r : R_u3) : List (Nat × Blk) := []
def args_u3 (core_ : Int) (caliper_ : Int) : List AV := [.r (.v (.int .i64 core_)), .r (.v (.int .i64 caliper_))]
def bin_u3 (core_ : Int) (caliper_ : Int) : List Blk := []
abbrev C_u3 (core_ : Int) (caliper_ : Int) (r : R_u3) : Prop := CC Tryz.prog 48 (args_u3 core_ caliper_) (bin_u3 core_ caliper_) (res_u3 r) (bo_u3 core_ caliper_ r)
def f_u3 (k : Nat) (core_ : Int) (caliper_ : Int) : Option R_u3 :=
  some (decide (core_ ≥ 1) && decide (core_ ≤ 2500) && decide (caliper_ ≥ 1) && decide (caliper_ ≤ 5000))
def v_u3 (k : Nat) (core_ : Int) (caliper_ : Int) : R_u3 := (f_u3 k core_ caliper_).getD false
def ke_u3 (k : Nat) : Ke := (48, fun xs => match xs with
  | [_, _] => some [false, false]
  | _ => none, fun xs bs => match xs, bs with
  | [.r (.v (.int .i64 core_)), .r (.v (.int .i64 caliper_))], [] => some (.one (res_u3 (v_u3 k core_ caliper_), bo_u3 core_ caliper_ (v_u3 k core_ caliper_)))
  | _, _ => none)
theorem of_u3 (k : Nat) (core_ : Int) (caliper_ : Int) (r : R_u3) (h : f_u3 k core_ caliper_ = some r) : C_u3 core_ caliper_ r := by
  refine CC.of (fn := Tryz.f48) (by kernel_rfl) (by kernel_rfl) (by kernel_rfl) (by kernel_rfl) ?_
  unfold f_u3 at h
  exact go (mkK []) [] [] [.autoB [4] true []] (gL h) (by kernel_rfl)
theorem cc_u3 {k : Nat} {core_ : Int} {caliper_ : Int} (h : (f_u3 k core_ caliper_).isSome = true) : C_u3 core_ caliper_ (v_u3 k core_ caliper_) := ccG (Φ := C_u3 core_ caliper_) h (of_u3 k core_ caliper_)
abbrev R_u4 : Type := Int
def res_u4 (r : R_u4) : AV := .r (.v (.int .i64 r))
def bo_u4 (core_ : Int) (dia_ : Int) (caliper_ : Int) (r : R_u4) : List (Nat × Blk) := []
def args_u4 (core_ : Int) (dia_ : Int) (caliper_ : Int) : List AV := [.r (.v (.int .i64 core_)), .r (.v (.int .i64 dia_)), .r (.v (.int .i64 caliper_))]
def bin_u4 (core_ : Int) (dia_ : Int) (caliper_ : Int) : List Blk := []
abbrev C_u4 (core_ : Int) (dia_ : Int) (caliper_ : Int) (r : R_u4) : Prop := CC Tryz.prog 51 (args_u4 core_ dia_ caliper_) (bin_u4 core_ dia_ caliper_) (res_u4 r) (bo_u4 core_ dia_ caliper_ r)
def f_u4 (k : Nat) (core_ : Int) (dia_ : Int) (caliper_ : Int) : Option R_u4 :=
  if (IntKind.i64.wrap ((1000000000 : Int) * caliper_) ≠ (0 : Int)) then
  some (IntKind.i64.wrap ((IntKind.i64.wrap (3141592653 * IntKind.i64.wrap (IntKind.i64.wrap (IntKind.i64.wrap (dia_ * dia_) - IntKind.i64.wrap (core_ * core_)) * 250))).tdiv (IntKind.i64.wrap (1000000000 * caliper_))))
  else none
def v_u4 (k : Nat) (core_ : Int) (dia_ : Int) (caliper_ : Int) : R_u4 := (f_u4 k core_ dia_ caliper_).getD 0
def ke_u4 (k : Nat) : Ke := (51, fun xs => match xs with
  | [_, _, _] => some [false, false, false]
  | _ => none, fun xs bs => match xs, bs with
  | [.r (.v (.int .i64 core_)), .r (.v (.int .i64 dia_)), .r (.v (.int .i64 caliper_))], [] => some (.one (res_u4 (v_u4 k core_ dia_ caliper_), bo_u4 core_ dia_ caliper_ (v_u4 k core_ dia_ caliper_)))
  | _, _ => none)
theorem of_u4 (k : Nat) (core_ : Int) (dia_ : Int) (caliper_ : Int) (r : R_u4) (h : f_u4 k core_ dia_ caliper_ = some r) : C_u4 core_ dia_ caliper_ r := by
  refine CC.of (fn := Tryz.f51) (by kernel_rfl) (by kernel_rfl) (by kernel_rfl) (by kernel_rfl) ?_
  unfold f_u4 at h
  exact go (mkK []) [] [] [.autoB [6] true []] (gN1 h id fun h => gL h) (by kernel_rfl)
theorem cc_u4 {k : Nat} {core_ : Int} {dia_ : Int} {caliper_ : Int} (h : (f_u4 k core_ dia_ caliper_).isSome = true) : C_u4 core_ dia_ caliper_ (v_u4 k core_ dia_ caliper_) := ccG (Φ := C_u4 core_ dia_ caliper_) h (of_u4 k core_ dia_ caliper_)
abbrev R_u2 : Type := Bool
def res_u2 (r : R_u2) : AV := .r (.v (.bool r))
def bo_u2 (n_ : Int) (z00 : Int) (z10 : Int) (z20 : Int) (r : R_u2) : List (Nat × Blk) := [(0, .var 3 [.r (.v (.int .i64 z00))]), (0, .var 3 [.r (.v (.int .i64 z10))]), (0, .var 3 [.r (.v (.int .i64 z20))])]
def args_u2 (n_ : Int) (z00 : Int) (z10 : Int) (z20 : Int) : List AV := [.r (.v (.int .i64 n_)), .ptr 0 0 0, .ptr 1 0 0, .ptr 2 0 0]
def bin_u2 (n_ : Int) (z00 : Int) (z10 : Int) (z20 : Int) : List Blk := [.var 3 [.r (.v (.int .i64 z00))], .var 3 [.r (.v (.int .i64 z10))], .var 3 [.r (.v (.int .i64 z20))]]
abbrev C_u2 (n_ : Int) (z00 : Int) (z10 : Int) (z20 : Int) (r : R_u2) : Prop := CC Tryz.prog 50 (args_u2 n_ z00 z10 z20) (bin_u2 n_ z00 z10 z20) (res_u2 r) (bo_u2 n_ z00 z10 z20 r)
def f_u2 (k : Nat) (n_ : Int) (z00 : Int) (z10 : Int) (z20 : Int) : Option R_u2 :=
  if ((f_u4 k z00 (IntKind.i64.wrap (z00 + n_)) z10).isSome = true) then
  some (decide (v_u4 k z00 (IntKind.i64.wrap (z00 + n_)) z10 ≥ z20))
  else none
def v_u2 (k : Nat) (n_ : Int) (z00 : Int) (z10 : Int) (z20 : Int) : R_u2 := (f_u2 k n_ z00 z10 z20).getD false
def ke_u2 (k : Nat) : Ke := (50, fun xs => match xs with
  | [_, .ptr _ _ _, .ptr _ _ _, .ptr _ _ _] => some [false, true, true, true]
  | _ => none, fun xs bs => match xs, bs with
  | [.r (.v (.int .i64 n_)), .ptr 0 0 0, .ptr 1 0 0, .ptr 2 0 0], [.var 3 [.r (.v (.int .i64 z00))], .var 3 [.r (.v (.int .i64 z10))], .var 3 [.r (.v (.int .i64 z20))]] => some (.one (res_u2 (v_u2 k n_ z00 z10 z20), bo_u2 n_ z00 z10 z20 (v_u2 k n_ z00 z10 z20)))
  | _, _ => none)
theorem of_u2 (k : Nat) (n_ : Int) (z00 : Int) (z10 : Int) (z20 : Int) (r : R_u2) (h : f_u2 k n_ z00 z10 z20 = some r) : C_u2 n_ z00 z10 z20 r := by
  refine CC.of (fn := Tryz.f50) (by kernel_rfl) (by kernel_rfl) (by kernel_rfl) (by kernel_rfl) ?_
  unfold f_u2 at h
  exact go (mkK [ke_u4 k]) [] [] [.autoB [5] true []] (gN1 h (fun q => cc_u4 q) fun h => gL h) (by kernel_rfl)
theorem cc_u2 {k : Nat} {n_ : Int} {z00 : Int} {z10 : Int} {z20 : Int} (h : (f_u2 k n_ z00 z10 z20).isSome = true) : C_u2 n_ z00 z10 z20 (v_u2 k n_ z00 z10 z20) := ccG (Φ := C_u2 n_ z00 z10 z20) h (of_u2 k n_ z00 z10 z20)
abbrev R_u106 : Type := Int
def res_u106 (r : R_u106) : AV := .r (.v (.int .i64 r))
def bo_u106 (n_ : Int) (f_c00 : Int) (f_c10 : Int) (f_c20 : Int) (r : R_u106) : List (Nat × Blk) := [(0, .var 3 [.r (.v (.int .i64 f_c00))]), (0, .var 3 [.r (.v (.int .i64 f_c10))]), (0, .var 3 [.r (.v (.int .i64 f_c20))])]
def args_u106 (n_ : Int) (f_c00 : Int) (f_c10 : Int) (f_c20 : Int) : List AV := [.r (.v (.int .i64 n_)), .fn (.func 50) [] [.ptr 0 0 0, .ptr 1 0 0, .ptr 2 0 0]]
def bin_u106 (n_ : Int) (f_c00 : Int) (f_c10 : Int) (f_c20 : Int) : List Blk := [.var 3 [.r (.v (.int .i64 f_c00))], .var 3 [.r (.v (.int .i64 f_c10))], .var 3 [.r (.v (.int .i64 f_c20))]]
abbrev C_u106 (n_ : Int) (f_c00 : Int) (f_c10 : Int) (f_c20 : Int) (r : R_u106) : Prop := CC Tryz.prog 49 (args_u106 n_ f_c00 f_c10 f_c20) (bin_u106 n_ f_c00 f_c10 f_c20) (res_u106 r) (bo_u106 n_ f_c00 f_c10 f_c20 r)
def st_u106_2 (n_ : Int) (f_c00 : Int) (f_c10 : Int) (f_c20 : Int) (y0 : Int) (y1 : Int) : St := ⟨mkS 26 [(1, .fn ((Fn.func 50)) [] [.ptr 0 0 0, .ptr 1 0 0, .ptr 2 0 0]), (5, .r (.v (.int .i64 y0))), (6, .r (.v (.int .i64 y1)))], [(0, 0, .var 3 [.r (.v (.int .i64 f_c00))]), (1, 0, .var 3 [.r (.v (.int .i64 f_c10))]), (2, 0, .var 3 [.r (.v (.int .i64 f_c20))])]⟩
def f_u106_2 (k : Nat) (n_ : Int) (f_c00 : Int) (f_c10 : Int) (f_c20 : Int) : Nat → Int → Int → Option R_u106
  | 0, _, _ => none
  | j + 1, y0, y1 =>
  bif (decide (y0 < y1)) then
  if ((f_u2 k (IntKind.i64.wrap ((IntKind.u64.wrap (IntKind.i64.wrap (y0 + y1))).fdiv (2 ^ min (Int.toNat 1) IntKind.u64.bits))) f_c00 f_c10 f_c20).isSome = true) then
  bif (!v_u2 k (IntKind.i64.wrap ((IntKind.u64.wrap (IntKind.i64.wrap (y0 + y1))).fdiv ((2 : Int) ^ min (Int.toNat (1 : Int)) IntKind.u64.bits))) f_c00 f_c10 f_c20) then
  f_u106_2 k n_ f_c00 f_c10 f_c20 j ((IntKind.i64.wrap (IntKind.i64.wrap ((IntKind.u64.wrap (IntKind.i64.wrap (y0 + y1))).fdiv (2 ^ min (Int.toNat 1) IntKind.u64.bits)) + 1))) y1
  else
  f_u106_2 k n_ f_c00 f_c10 f_c20 j y0 ((IntKind.i64.wrap ((IntKind.u64.wrap (IntKind.i64.wrap (y0 + y1))).fdiv (2 ^ min (Int.toNat 1) IntKind.u64.bits))))
  else none
  else
  some y0
def f_u106 (k : Nat) (n_ : Int) (f_c00 : Int) (f_c10 : Int) (f_c20 : Int) : Option R_u106 :=
  f_u106_2 k n_ f_c00 f_c10 f_c20 k 0 n_
def v_u106 (k : Nat) (n_ : Int) (f_c00 : Int) (f_c10 : Int) (f_c20 : Int) : R_u106 := (f_u106 k n_ f_c00 f_c10 f_c20).getD 0
def ke_u106 (k : Nat) : Ke := (49, fun xs => match xs with
  | [_, .fn (.func 50) _ _] => some [false, true]
  | _ => none, fun xs bs => match xs, bs with
  | [.r (.v (.int .i64 n_)), .fn (.func 50) [] [.ptr 0 0 0, .ptr 1 0 0, .ptr 2 0 0]], [.var 3 [.r (.v (.int .i64 f_c00))], .var 3 [.r (.v (.int .i64 f_c10))], .var 3 [.r (.v (.int .i64 f_c20))]] => some (.one (res_u106 (v_u106 k n_ f_c00 f_c10 f_c20), bo_u106 n_ f_c00 f_c10 f_c20 (v_u106 k n_ f_c00 f_c10 f_c20)))
  | _, _ => none)
def cs_u106 : List (Nat × List Cmd) := [(2, [.autoB [1, 5, 6] false []])]
abbrev E_u106 (n_ : Int) (f_c00 : Int) (f_c10 : Int) (f_c20 : Int) (todo : List Item) (st : St) (o : Option R_u106) : Prop := ∀ r, o = some r → Ev Tryz.prog Tryz.f49 3 todo st (res_u106 r) (bo_u106 n_ f_c00 f_c10 f_c20 r)
theorem ev_u106 (k : Nat) (n_ : Int) (f_c00 : Int) (f_c10 : Int) (f_c20 : Int) : ∀ j, (∀ (y0 : Int) (y1 : Int), E_u106 n_ f_c00 f_c10 f_c20 (placeAt Tryz.f49 2) (st_u106_2 n_ f_c00 f_c10 f_c20 y0 y1) (f_u106_2 k n_ f_c00 f_c10 f_c20 j y0 y1))
  | 0 => fun _ _ _ h => (nomatch h)
  | j + 1 => by
    have ih := @ev_u106 k n_ f_c00 f_c10 f_c20 j
    · intro y0 y1 r h
      rw [f_u106_2] at h
      exact go (mkK [ke_u2 k]) [] cs_u106 [.autoB [4] true []] (gT h (fun c h => gN1 h (fun q => cc_u2 q) fun h => gT h (fun c h => gC h 2 (ih _ _ _)) fun c h => gC h 2 (ih _ _ _)) fun c h => gL h) (by kernel_rfl)
theorem of_u106 (k : Nat) (n_ : Int) (f_c00 : Int) (f_c10 : Int) (f_c20 : Int) (r : R_u106) (h : f_u106 k n_ f_c00 f_c10 f_c20 = some r) : C_u106 n_ f_c00 f_c10 f_c20 r := by
  refine CC.of (fn := Tryz.f49) (by kernel_rfl) (by kernel_rfl) (by kernel_rfl) (by kernel_rfl) ?_
  unfold f_u106 at h
  exact go (mkK [ke_u2 k]) [] cs_u106 [.autoB [4] true []] (gC h 2 ((ev_u106 k n_ f_c00 f_c10 f_c20 k) _ _ _)) (by kernel_rfl)
theorem cc_u106 {k : Nat} {n_ : Int} {f_c00 : Int} {f_c10 : Int} {f_c20 : Int} (h : (f_u106 k n_ f_c00 f_c10 f_c20).isSome = true) : C_u106 n_ f_c00 f_c10 f_c20 (v_u106 k n_ f_c00 f_c10 f_c20) := ccG (Φ := C_u106 n_ f_c00 f_c10 f_c20) h (of_u106 k n_ f_c00 f_c10 f_c20)
abbrev R_u1 : Type := Int × Int
def res_u1 (r : R_u1) : AV := .tup [.r (.v (.int .i64 r.1)), .r (.v (.int .i64 r.2))]
def bo_u1 (core_ : Int) (length_ : Int) (caliper_ : Int) (r : R_u1) : List (Nat × Blk) := []
def args_u1 (core_ : Int) (length_ : Int) (caliper_ : Int) : List AV := [.r (.v (.int .i64 core_)), .r (.v (.int .i64 length_)), .r (.v (.int .i64 caliper_))]
def bin_u1 (core_ : Int) (length_ : Int) (caliper_ : Int) : List Blk := []
abbrev C_u1 (core_ : Int) (length_ : Int) (caliper_ : Int) (r : R_u1) : Prop := CC Tryz.prog 22 (args_u1 core_ length_ caliper_) (bin_u1 core_ length_ caliper_) (res_u1 r) (bo_u1 core_ length_ caliper_ r)
def f_u1 (k : Nat) (core_ : Int) (length_ : Int) (caliper_ : Int) : Option R_u1 :=
  if ((f_u3 k core_ caliper_).isSome = true) then
  bif (!v_u3 k core_ caliper_ || decide (length_ < (0 : Int)) || decide (length_ > (17179869184 : Int))) then
  some ((0, 1))
  else
  if ((f_u106 k (IntKind.i64.wrap (IntKind.i64.wrap (2500 - core_) + 1)) core_ caliper_ length_).isSome = true) then
  bif (decide (IntKind.i64.wrap (core_ + v_u106 k (IntKind.i64.wrap (IntKind.i64.wrap ((2500 : Int) - core_) + (1 : Int))) core_ caliper_ length_) > (2500 : Int))) then
  some ((0, 32))
  else
  some ((IntKind.i64.wrap (core_ + v_u106 k (IntKind.i64.wrap (IntKind.i64.wrap (2500 - core_) + 1)) core_ caliper_ length_), 0))
  else none
  else none
def v_u1 (k : Nat) (core_ : Int) (length_ : Int) (caliper_ : Int) : R_u1 := (f_u1 k core_ length_ caliper_).getD (0, 0)
def ke_u1 (k : Nat) : Ke := (22, fun xs => match xs with
  | [_, _, _] => some [false, false, false]
  | _ => none, fun xs bs => match xs, bs with
  | [.r (.v (.int .i64 core_)), .r (.v (.int .i64 length_)), .r (.v (.int .i64 caliper_))], [] => some (.one (res_u1 (v_u1 k core_ length_ caliper_), bo_u1 core_ length_ caliper_ (v_u1 k core_ length_ caliper_)))
  | _, _ => none)
theorem of_u1 (k : Nat) (core_ : Int) (length_ : Int) (caliper_ : Int) (r : R_u1) (h : f_u1 k core_ length_ caliper_ = some r) : C_u1 core_ length_ caliper_ r := by
  refine CC.of (fn := Tryz.f22) (by kernel_rfl) (by kernel_rfl) (by kernel_rfl) (by kernel_rfl) ?_
  unfold f_u1 at h
  exact go (mkK [ke_u3 k, ke_u2 k, ke_u106 k]) [] [] [.autoB [6, 7] true []] (gN1 h (fun q => cc_u3 q) fun h => gT h (fun c h => gL h) fun c h => gN1 h (fun q => cc_u106 q) fun h => gT h (fun c h => gL h) fun c h => gL h) (by kernel_rfl)
theorem cc_u1 {k : Nat} {core_ : Int} {length_ : Int} {caliper_ : Int} (h : (f_u1 k core_ length_ caliper_).isSome = true) : C_u1 core_ length_ caliper_ (v_u1 k core_ length_ caliper_) := ccG (Φ := C_u1 core_ length_ caliper_) h (of_u1 k core_ length_ caliper_)
end
end Go.AM
namespace Go.AM
open Go Go.Proofs
noncomputable section
end
end Go.AM
namespace Go.AM
open Go Go.Proofs
noncomputable section
end
/-! ### diameters -/
def woundS (c d p : Int) : Int := (3141592653 * ((d * d - c * c) * 250)).tdiv (1000000000 * p)
theorem sq_le {c d : Int} (h0 : 0 ≤ c) (h1 : c ≤ d) : c * c ≤ d * d := Int.mul_le_mul h1 h1 h0 (by omega)
theorem sq_in {c d : Int} (h0 : 1 ≤ c) (h1 : c ≤ d) (h2 : d ≤ 2500) : 0 ≤ c * c ∧ c * c ≤ d * d ∧ d * d ≤ 6250000 := by
  refine ⟨Int.mul_nonneg (by omega) (by omega), sq_le (by omega) h1, ?_⟩
  have := sq_le (c := d) (d := 2500) (by omega) h2
  omega
theorem wound_s (k : Nat) {c d p : Int} (h0 : 1 ≤ c) (h1 : c ≤ d) (h2 : d ≤ 2500) (p0 : 1 ≤ p) (p1 : p ≤ 5000) : f_u4 k c d p = some (woundS c d p) ∧ 0 ≤ woundS c d p ∧ woundS c d p ≤ 9223372036854775807 := by
  obtain ⟨a, b, e⟩ := sq_in h0 h1 h2
  have hn : 0 ≤ 3141592653 * ((d * d - c * c) * 250) ∧ 3141592653 * ((d * d - c * c) * 250) ≤ 4908738520312500000 := by omega
  have q0 : 0 ≤ woundS c d p := Int.tdiv_nonneg hn.1 (by omega)
  have q1 : woundS c d p ≤ 3141592653 * ((d * d - c * c) * 250) := by
    unfold woundS
    rw [Int.tdiv_eq_ediv_of_nonneg hn.1]
    exact Int.ediv_le_self _ hn.1
  refine ⟨?_, q0, by omega⟩
  unfold f_u4
  rw [wrap_id (i := 1000000000 * p) (by omega) (by omega), if_pos (by omega), wrap_id (i := d * d) (by omega) (by omega), wrap_id (i := c * c) (by omega) (by omega), wrap_id (i := d * d - c * c) (by omega) (by omega), wrap_id (i := (d * d - c * c) * 250) (by omega) (by omega), wrap_id (i := 3141592653 * ((d * d - c * c) * 250)) (by omega) (by omega)]
  show some (IntKind.i64.wrap (woundS c d p)) = _
  rw [wrap_id (by omega) (by omega)]
theorem wound_mono {c d e p : Int} (h0 : 1 ≤ c) (h1 : c ≤ d) (h2 : d ≤ e) (p0 : 1 ≤ p) : woundS c d p ≤ woundS c e p := by
  have a := sq_le (c := c) (d := d) (by omega) h1
  have b := sq_le (c := d) (d := e) (by omega) h2
  unfold woundS
  rw [Int.tdiv_eq_ediv_of_nonneg (by omega), Int.tdiv_eq_ediv_of_nonneg (by omega)]
  exact Int.ediv_le_ediv (by omega) (by omega)
/-- the least diameter at which a length fits, from d -/
def diaGo (c n p : Int) : Nat → Int → Int × Int
  | 0, _ => (0, 32)
  | j + 1, d => if woundS c d p ≥ n then (d, 0) else diaGo c n p j (d + 1)
theorem diaGo_none {c n p : Int} : ∀ (j : Nat) (d : Int), (∀ q : Int, d ≤ q → q < d + j → ¬ woundS c q p ≥ n) → diaGo c n p j d = (0, 32)
  | 0, _, _ => rfl
  | j + 1, d, h => by
    rw [diaGo, if_neg (h d (by omega) (by omega))]
    exact diaGo_none j (d + 1) fun q h0 h1 => h q (by omega) (by omega)
theorem diaGo_some {c n p : Int} : ∀ (j : Nat) (d r : Int), d ≤ r → r < d + j → (∀ q : Int, d ≤ q → q < r → ¬ woundS c q p ≥ n) → woundS c r p ≥ n → diaGo c n p j d = (r, 0)
  | 0, d, r, h0, h1, _, _ => by omega
  | j + 1, d, r, h0, h1, h2, h3 => by
    rw [diaGo]
    by_cases e : d = r
    · rw [e, if_pos h3]
    · rw [if_neg (h2 d (Int.le_refl _) (by omega))]
      exact diaGo_some j (d + 1) r (by omega) (by omega) (fun q a b => h2 q (by omega) b) h3
def diaS (c n p : Int) : Int × Int := if c < 1 ∨ c > 2500 ∨ n < 0 ∨ n > 17179869184 ∨ p < 1 ∨ p > 5000 then (0, 1) else diaGo c n p (2501 - c).toNat c
theorem Dia_1_s (k : Nat) {c p : Int} (n : Int) (h0 : 1 ≤ c) (h1 : c ≤ 2500) (p0 : 1 ≤ p) (p1 : p ≤ 5000) {x : Int} (x0 : 0 ≤ x) (x1 : x < 2501 - c) : f_u2 k x c p n = some (decide (woundS c (c + x) p ≥ n)) := by
  have hw := (wound_s k (c := c) (d := c + x) (p := p) h0 (by omega) (by omega) p0 p1).1
  have hv : v_u4 k c (c + x) p = woundS c (c + x) p := by unfold v_u4; rw [hw]; rfl
  unfold f_u2
  rw [wrap_id (by omega) (by omega), hw, hv, Option.isSome_some, if_pos rfl]
theorem mid_s {a b : Int} (h0 : 0 ≤ a) (h1 : a ≤ b) (h2 : b ≤ 2501) : IntKind.i64.wrap ((IntKind.u64.wrap (IntKind.i64.wrap (a + b))).fdiv ((2 : Int) ^ min (Int.toNat (1 : Int)) IntKind.u64.bits)) = (a + b) / 2 := by
  have e : (2 : Int) ^ min (Int.toNat (1 : Int)) IntKind.u64.bits = 2 := by decide
  have u : IntKind.u64.wrap (a + b) = a + b := by
    show (a + b) % 18446744073709551616 = a + b
    exact Int.emod_eq_of_lt (by omega) (by omega)
  rw [wrap_id (i := a + b) (by omega) (by omega), u, e, Int.fdiv_eq_ediv_of_nonneg _ (by decide), wrap_id (by omega) (by omega)]
theorem Search_2 (k : Nat) {c p : Int} (n : Int) (h0 : 1 ≤ c) (hc : c ≤ 2500) (p0 : 1 ≤ p) (p1 : p ≤ 5000) (m : Int) (hm : m = 2501 - c) : ∀ (q j : Nat) (a b : Int), b - a ≤ q → q < j → 0 ≤ a → a ≤ b → b ≤ m → (∀ x : Int, 0 ≤ x → x < a → ¬ woundS c (c + x) p ≥ n) → (b < m → woundS c (c + b) p ≥ n) →
    ∃ r : Int, f_u106_2 k m c p n j a b = some r ∧ 0 ≤ r ∧ r ≤ m ∧ (∀ x : Int, 0 ≤ x → x < r → ¬ woundS c (c + x) p ≥ n) ∧ (r < m → woundS c (c + r) p ≥ n) := by
  intro q
  induction q with
  | zero =>
    intro j a b hq hj a0 ab bm lo hi
    obtain ⟨j, rfl⟩ : ∃ q, j = q + 1 := ⟨j - 1, by omega⟩
    obtain rfl : a = b := by omega
    refine ⟨a, ?_, a0, bm, lo, hi⟩
    rw [f_u106_2, decide_eq_false (by omega : ¬ a < a)]; rfl
  | succ q ih =>
    intro j a b hq hj a0 ab bm lo hi
    obtain ⟨j, rfl⟩ : ∃ q, j = q + 1 := ⟨j - 1, by omega⟩
    by_cases h : a < b
    · have hmid := mid_s a0 ab (by omega)
      have x0 : a ≤ (a + b) / 2 ∧ (a + b) / 2 < b := by omega
      have hd := Dia_1_s k n h0 hc p0 p1 (x := (a + b) / 2) (by omega) (by omega)
      have hv : v_u2 k ((a + b) / 2) c p n = decide (woundS c (c + (a + b) / 2) p ≥ n) := by unfold v_u2; rw [hd]; rfl
      rw [f_u106_2, decide_eq_true h, cond_true]
      simp only [hmid]
      rw [hd, hv, Option.isSome_some, if_pos rfl]
      by_cases hp : woundS c (c + (a + b) / 2) p ≥ n
      · rw [decide_eq_true hp, Bool.not_true, cond_false]
        exact ih j a ((a + b) / 2) (by omega) (by omega) a0 (by omega) (by omega) lo fun _ => hp
      · rw [decide_eq_false hp, Bool.not_false, cond_true, wrap_id (by omega) (by omega)]
        refine ih j ((a + b) / 2 + 1) b (by omega) (by omega) (by omega) (by omega) bm (fun x y0 y1 => ?_) hi
        have := wound_mono (c := c) (d := c + x) (e := c + (a + b) / 2) (p := p) h0 (by omega) (by omega) p0
        omega
    · obtain rfl : a = b := by omega
      refine ⟨a, ?_, a0, bm, lo, hi⟩
      rw [f_u106_2, decide_eq_false h]; rfl
theorem dia_Dia_s (k : Nat) (hk : 3000 ≤ k) (c n p : Int) : f_u1 k c n p = some (diaS c n p) := by
  have hf : f_u3 k c p = some (decide (c ≥ 1) && decide (c ≤ 2500) && decide (p ≥ 1) && decide (p ≤ 5000)) := rfl
  have hv : v_u3 k c p = (decide (c ≥ 1) && decide (c ≤ 2500) && decide (p ≥ 1) && decide (p ≤ 5000)) := rfl
  unfold f_u1 diaS
  rw [hf, hv, Option.isSome_some, if_pos rfl]
  by_cases h : c < 1 ∨ c > 2500 ∨ n < 0 ∨ n > 17179869184 ∨ p < 1 ∨ p > 5000
  · rw [if_pos h]
    have : (!(decide (c ≥ 1) && decide (c ≤ 2500) && decide (p ≥ 1) && decide (p ≤ 5000)) || decide (n < (0 : Int)) || decide (n > (17179869184 : Int))) = true := by
      cases h1 : (decide (c ≥ 1) && decide (c ≤ 2500) && decide (p ≥ 1) && decide (p ≤ 5000))
      · rfl
      · simp only [Bool.and_eq_true, decide_eq_true_iff] at h1
        simp only [Bool.or_eq_true, decide_eq_true_iff]; omega
    rw [this]; rfl
  · rw [if_neg h, decide_eq_true (by omega : c ≥ 1), decide_eq_true (by omega : c ≤ 2500), decide_eq_true (by omega : p ≥ 1), decide_eq_true (by omega : p ≤ 5000), decide_eq_false (by omega : ¬ n < 0), decide_eq_false (by omega : ¬ n > 17179869184)]
    rw [show (!(true && true && true && true) || false || false) = false from rfl, cond_false, wrap_id (i := 2500 - c) (by omega) (by omega), wrap_id (i := 2500 - c + 1) (by omega) (by omega), show 2500 - c + 1 = 2501 - c by omega]
    obtain ⟨r, e, r0, r1, lo, hi⟩ := Search_2 k n (c := c) (p := p) (by omega) (by omega) (by omega) (by omega) (2501 - c) rfl (2501 - c).toNat k 0 (2501 - c) (by omega) (by omega) (Int.le_refl _) (by omega) (Int.le_refl _) (fun x a b => by omega) (fun h => by omega)
    have e : f_u106 k (2501 - c) c p n = some r := e
    have ev : v_u106 k (2501 - c) c p n = r := by unfold v_u106; rw [e]; rfl
    rw [e, ev, Option.isSome_some, if_pos rfl, wrap_id (by omega) (by omega)]
    by_cases hr : r < 2501 - c
    · rw [decide_eq_false (by omega : ¬ c + r > 2500), cond_false, diaGo_some (2501 - c).toNat c (c + r) (by omega) (by omega) (fun x a b => by
        have := lo (x - c) (by omega) (by omega)
        rw [show c + (x - c) = x by omega] at this; exact this) (hi hr)]
    · rw [decide_eq_true (by omega : c + r > 2500), cond_true, diaGo_none (2501 - c).toNat c fun x a b => by
        have := lo (x - c) (by omega) (by omega)
        rw [show c + (x - c) = x by omega] at this; exact this]
theorem dia_Dia_v (k : Nat) (hk : 3000 ≤ k) (c n p : Int) : v_u1 k c n p = diaS c n p := by
  unfold v_u1; rw [dia_Dia_s k hk]; rfl
end Go.AM
namespace Go.AM
open Go

theorem good_iff {r : Rn} : good r ↔ 1 ≤ r.2.1 ∧ 0 ≤ lo r ∧ hi r < 17179869184 := by
  unfold good lo hi
  cases r.2.2
  · simp only [Bool.false_eq_true, if_false]
    constructor
    · rintro ⟨h1, h2, h3, h4, _, h6⟩
      have := h6 trivial
      omega
    · rintro ⟨h1, h2, h3⟩
      refine ⟨by omega, by omega, by omega, by omega, fun h => h.elim, fun _ => by omega⟩
  · simp only [if_true]
    constructor
    · rintro ⟨h1, h2, h3, h4, h5, _⟩
      have := h5 trivial
      omega
    · rintro ⟨h1, h2, h3⟩
      refine ⟨by omega, by omega, by omega, by omega, fun _ => by omega, fun h => by cases h⟩

theorem imgAt_append : ∀ (a b : List Rn) (x : Int), goods a → 0 ≤ x → imgAt (a ++ b) x = if x < lenS a then imgAt a x else imgAt b (x - lenS a)
  | [], b, x, _, h0 => by simp only [List.nil_append, lenS, if_neg (by omega : ¬ x < 0), Int.sub_zero]
  | r :: t, b, x, hg, h0 => by
    have hr := hg.1.1
    have ht := lenS_nonneg hg.2
    show (if x < r.2.1 then img r x else imgAt (t ++ b) (x - r.2.1)) = if x < r.2.1 + lenS t then (if x < r.2.1 then img r x else imgAt t (x - r.2.1)) else imgAt b (x - (r.2.1 + lenS t))
    by_cases h : x < r.2.1
    · rw [if_pos h, if_pos (by omega), if_pos h]
    · rw [if_neg h, imgAt_append t b _ hg.2 (by omega)]
      by_cases h2 : x - r.2.1 < lenS t
      · rw [if_pos h2, if_pos (by omega), if_neg h]
      · rw [if_neg h2, if_neg (by omega), Int.sub_sub]

/-- integers of a run: their images -/
theorem prt_img {r : Rn} {x n y : Int} (h0 : 0 ≤ y) (h1 : y < n) : img (prt r x n) y = img r (x + y) := by
  unfold prt img
  by_cases h : n > 1
  · rw [decide_eq_true h, Bool.and_true]
    cases r.2.2 <;> simp only [Bool.false_eq_true, if_false, if_true] <;> omega
  · have : y = 0 := by omega
    subst this
    cases r.2.2 && decide (n > 1) <;> simp
theorem prt_good {r : Rn} (h : good r) {x n : Int} (h0 : 0 ≤ x) (h1 : 1 ≤ n) (h2 : x + n ≤ r.2.1) : good (prt r x n) := by
  rw [good_iff] at h ⊢
  obtain ⟨g1, g2, g3⟩ := h
  have e1 := img_mem (r := r) (x := x) (by omega) (by omega)
  have e2 := img_mem (r := r) (x := x + n - 1) (by omega) (by omega)
  refine ⟨h1, ?_, ?_⟩
  · unfold prt lo
    by_cases h : n > 1
    · rw [decide_eq_true h, Bool.and_true]
      unfold img at e1 e2 ⊢
      cases hb : r.2.2 <;> rw [hb] at e1 e2 <;> simp only [Bool.false_eq_true, if_false, if_true] at e1 e2 ⊢ <;> omega
    · rw [decide_eq_false h, Bool.and_false]
      simp only [Bool.false_eq_true, if_false]; omega
  · unfold prt hi
    by_cases h : n > 1
    · rw [decide_eq_true h, Bool.and_true]
      unfold img at e1 e2 ⊢
      cases hb : r.2.2 <;> rw [hb] at e1 e2 <;> simp only [Bool.false_eq_true, if_false, if_true] at e1 e2 ⊢ <;> omega
    · rw [decide_eq_false h, Bool.and_false]
      simp only [Bool.false_eq_true, if_false]; omega

theorem stp_of {c r : Rn} (h : apart c r = false) : stp c r = 1 ∨ stp c r = -1 := by
  unfold apart at h
  simp only [Bool.or_eq_false_iff] at h
  generalize stp c r = s at h
  by_cases e1 : s = 1
  · exact .inl e1
  · by_cases e2 : s = -1
    · exact .inr e2
    · have := h.1; simp [e1, e2] at this
theorem back_of {c r : Rn} (h : apart c r = false) (hc : c.2.1 > 1) : c.2.2 = (stp c r == -1) := by
  unfold apart at h
  simp only [Bool.or_eq_false_iff] at h
  have h2 := h.2
  rw [decide_eq_true hc, Bool.true_and] at h2
  cases e : c.2.2 <;> cases e2 : (stp c r == -1) <;> simp_all

/-- a run that takes n integers of the next one -/
theorem grow_img {c r : Rn} (hc : 1 ≤ c.2.1) (h : apart c r = false) {n : Int} (hn : n > 1 → r.2.2 = (stp c r == -1)) {x : Int} (h0 : 0 ≤ x) (h1 : x < c.2.1 + n) :
    img (c.1, c.2.1 + n, stp c r == -1) x = if x < c.2.1 then img c x else img r (x - c.2.1) := by
  have hb := back_of (c := c) (r := r) h
  have hstp : stp c r = r.1 - img c (c.2.1 - 1) := rfl
  rcases stp_of h with hs | hs
  · rw [hs] at hb hn hstp ⊢
    have hf : ((1 : Int) == -1) = false := rfl
    rw [hf] at hb hn ⊢
    unfold img at hstp ⊢
    simp only [Bool.false_eq_true, if_false]
    by_cases hx : x < c.2.1
    · rw [if_pos hx]
      by_cases hc1 : c.2.1 > 1
      · rw [hb hc1]; simp
      · have : x = 0 := by omega
        subst this; cases c.2.2 <;> simp
    · rw [if_neg hx]
      have e1 : r.1 = c.1 + c.2.1 := by
        by_cases hc1 : c.2.1 > 1
        · rw [hb hc1] at hstp; simp only [Bool.false_eq_true, if_false] at hstp; omega
        · cases e : c.2.2 <;> rw [e] at hstp <;> simp only [Bool.false_eq_true, if_false, if_true] at hstp <;> omega
      by_cases hn1 : n > 1
      · rw [hn hn1]; simp only [Bool.false_eq_true, if_false]; omega
      · cases r.2.2 <;> simp only [Bool.false_eq_true, if_false, if_true] <;> omega
  · rw [hs] at hb hn hstp ⊢
    have hf : ((-1 : Int) == -1) = true := rfl
    rw [hf] at hb hn ⊢
    unfold img at hstp ⊢
    simp only [if_true]
    by_cases hx : x < c.2.1
    · rw [if_pos hx]
      by_cases hc1 : c.2.1 > 1
      · rw [hb hc1]; simp
      · have : x = 0 := by omega
        subst this; cases c.2.2 <;> simp
    · rw [if_neg hx]
      have e1 : r.1 = c.1 - c.2.1 := by
        by_cases hc1 : c.2.1 > 1
        · rw [hb hc1] at hstp; simp only [if_true] at hstp; omega
        · cases e : c.2.2 <;> rw [e] at hstp <;> simp only [Bool.false_eq_true, if_false, if_true] at hstp <;> omega
      by_cases hn1 : n > 1
      · rw [hn hn1]; simp only [if_true]; omega
      · cases r.2.2 <;> simp only [Bool.false_eq_true, if_false, if_true] <;> omega

theorem good_of_ends {r : Rn} (h1 : 1 ≤ r.2.1) (a : 0 ≤ img r 0 ∧ img r 0 < 17179869184) (b : 0 ≤ img r (r.2.1 - 1) ∧ img r (r.2.1 - 1) < 17179869184) : good r := by
  rw [good_iff]
  unfold img at a b
  unfold lo hi
  cases hb : r.2.2 <;> rw [hb] at a b <;> simp only [Bool.false_eq_true, if_false, if_true] at a b ⊢ <;> omega
theorem good_img {r : Rn} (h : good r) {x : Int} (h0 : 0 ≤ x) (h1 : x < r.2.1) : 0 ≤ img r x ∧ img r x < 17179869184 := by
  have := img_mem (r := r) h0 h1
  have h := good_iff.1 h
  omega

theorem grow_good {c r : Rn} (hc : good c) (hr : good r) (h : apart c r = false) {n : Int} (hn0 : 1 ≤ n) (hn1 : n ≤ r.2.1) (hn : n > 1 → r.2.2 = (stp c r == -1)) : good (c.1, c.2.1 + n, stp c r == -1) := by
  have hc1 := hc.1
  refine good_of_ends (by show 1 ≤ c.2.1 + n; omega) ?_ ?_
  · rw [grow_img hc1 h hn (by omega) (by omega), if_pos (by omega)]
    exact good_img hc (by omega) (by omega)
  · show 0 ≤ img (c.1, c.2.1 + n, stp c r == -1) (c.2.1 + n - 1) ∧ img (c.1, c.2.1 + n, stp c r == -1) (c.2.1 + n - 1) < 17179869184
    rw [grow_img hc1 h hn (by omega) (by omega), if_neg (by omega)]
    exact good_img hr (by omega) (by omega)

/-- what a further run makes of a normal form -/
theorem addS_spec (b : List Rn) (r : Rn) (hb : goods b) (hr : good r) : goods (addS b r) ∧ lenS (addS b r) = lenS b + r.2.1 ∧ ∀ x, 0 ≤ x → x < lenS b + r.2.1 → imgAt (addS b r) x = imgAt (b ++ [r]) x := by
  have hr1 := hr.1
  have last1 : ∀ (x : Int), x < r.2.1 → imgAt [r] x = img r x := fun x h => by simp only [imgAt, if_pos h]
  have p0 : ∀ x, 0 ≤ x → x < r.2.1 → img (prt r 0 r.2.1) x = img r x := fun x h0 h1 => by rw [prt_img h0 h1, Int.zero_add]
  have hp : good (prt r 0 r.2.1) := prt_good hr (by omega) hr1 (by omega)
  have new : ∀ b : List Rn, goods b → goods (b ++ [prt r 0 r.2.1]) ∧ lenS (b ++ [prt r 0 r.2.1]) = lenS b + r.2.1 ∧ ∀ x, 0 ≤ x → x < lenS b + r.2.1 → imgAt (b ++ [prt r 0 r.2.1]) x = imgAt (b ++ [r]) x := fun b hb => by
    refine ⟨(goods_append _ _).2 ⟨hb, hp, trivial⟩, ?_, fun x h0 h1 => ?_⟩
    · rw [lenS_append]; simp only [lenS]; show lenS b + (r.2.1 + 0) = _; omega
    · rw [imgAt_append _ _ _ hb h0, imgAt_append _ _ _ hb h0]
      by_cases h : x < lenS b
      · rw [if_pos h, if_pos h]
      · rw [if_neg h, if_neg h, last1 _ (by omega)]
        have hlt : x - lenS b < (prt r 0 r.2.1).2.1 := by show x - lenS b < r.2.1; omega
        simp only [imgAt, if_pos hlt]
        exact p0 _ (by omega) (by omega)
  have h0 : ¬ r.2.1 < 1 := by omega
  rcases List.eq_nil_or_concat b with rfl | ⟨pre, c, rfl⟩
  · unfold addS
    rw [if_neg h0]
    exact new [] trivial
  rw [List.concat_eq_append] at *
  obtain ⟨hpre, hc, _⟩ := (goods_append _ _).1 hb
  have hc1 := hc.1
  have hlc : lenS (pre ++ [c]) = lenS pre + c.2.1 := by rw [lenS_append]; simp only [lenS]; omega
  have e : addS (pre ++ [c]) r = (bif apart c r then pre ++ [c] ++ [prt r 0 r.2.1]
      else bif decide (r.2.1 > 1) && !(r.2.2 == (stp c r == -1)) then pre ++ [(c.1, c.2.1 + 1, stp c r == -1), prt r 1 (r.2.1 - 1)]
      else pre ++ [(c.1, c.2.1 + r.2.1, stp c r == -1)]) := by
    unfold addS; rw [if_neg h0]; simp
  rw [e]
  cases ha : apart c r with
  | true => rw [cond_true]; exact new _ hb
  | false =>
  rw [cond_false]
  have old : ∀ x, 0 ≤ x → x < lenS (pre ++ [c]) + r.2.1 → imgAt (pre ++ [c] ++ [r]) x = if x < lenS pre then imgAt pre x else if x - lenS pre < c.2.1 then img c (x - lenS pre) else img r (x - lenS pre - c.2.1) := fun x hx0 hx1 => by
    rw [List.append_assoc, imgAt_append _ _ _ hpre hx0]
    by_cases h : x < lenS pre
    · rw [if_pos h, if_pos h]
    · rw [if_neg h, if_neg h]
      simp only [List.cons_append, List.nil_append, imgAt]
      by_cases h2 : x - lenS pre < c.2.1
      · rw [if_pos h2, if_pos h2]
      · rw [if_neg h2, if_neg h2, if_pos (by omega)]
  cases hd : (decide (r.2.1 > 1) && !(r.2.2 == (stp c r == -1))) with
  | true =>
    rw [cond_true]
    simp only [Bool.and_eq_true, decide_eq_true_eq] at hd
    have hn : (1 : Int) > 1 → r.2.2 = (stp c r == -1) := fun h => by omega
    have hg := grow_good hc hr ha (n := 1) (by omega) (by omega) hn
    have hq : good (prt r 1 (r.2.1 - 1)) := prt_good hr (by omega) (by omega) (by omega)
    refine ⟨(goods_append _ _).2 ⟨hpre, hg, hq, trivial⟩, ?_, fun x hx0 hx1 => ?_⟩
    · rw [lenS_append, hlc]
      simp only [lenS]
      show lenS pre + (c.2.1 + 1 + (r.2.1 - 1 + 0)) = _
      omega
    · rw [old x hx0 hx1, imgAt_append _ _ _ hpre hx0]
      by_cases h : x < lenS pre
      · rw [if_pos h, if_pos h]
      · rw [if_neg h, if_neg h]
        simp only [imgAt]
        show (if x - lenS pre < c.2.1 + 1 then _ else if x - lenS pre - (c.2.1 + 1) < r.2.1 - 1 then _ else _) = _
        by_cases h2 : x - lenS pre < c.2.1 + 1
        · rw [if_pos h2, grow_img hc1 ha hn (by omega) h2]
        · rw [if_neg h2, if_pos (by omega), if_neg (by omega), prt_img (by omega) (by omega)]
          congr 1; omega
  | false =>
    rw [cond_false]
    have hn : r.2.1 > 1 → r.2.2 = (stp c r == -1) := fun h => by
      rw [decide_eq_true h, Bool.true_and] at hd
      cases e : r.2.2 <;> cases e2 : (stp c r == -1) <;> simp_all
    have hg := grow_good hc hr ha (n := r.2.1) (by omega) (by omega) hn
    refine ⟨(goods_append _ _).2 ⟨hpre, hg, trivial⟩, ?_, fun x hx0 hx1 => ?_⟩
    · rw [lenS_append, hlc]
      simp only [lenS]
      show lenS pre + (c.2.1 + r.2.1 + 0) = _
      omega
    · rw [old x hx0 hx1, imgAt_append _ _ _ hpre hx0]
      by_cases h : x < lenS pre
      · rw [if_pos h, if_pos h]
      · rw [if_neg h, if_neg h]
        simp only [imgAt]
        show (if x - lenS pre < c.2.1 + r.2.1 then _ else _) = _
        rw [if_pos (by omega), grow_img hc1 ha hn (by omega) (by omega)]

theorem adds_spec : ∀ (l b : List Rn), goods b → goods l → goods (adds b l) ∧ lenS (adds b l) = lenS b + lenS l ∧ ∀ x, 0 ≤ x → x < lenS b + lenS l → imgAt (adds b l) x = imgAt (b ++ l) x
  | [], b, hb, _ => by simp [adds, lenS, hb]
  | r :: t, b, hb, ⟨hr, ht⟩ => by
    obtain ⟨a1, a2, a3⟩ := addS_spec b r hb hr
    obtain ⟨b1, b2, b3⟩ := adds_spec t (addS b r) a1 ht
    have hr1 := hr.1
    have hb0 := lenS_nonneg hb
    have ht0 := lenS_nonneg ht
    refine ⟨b1, by show lenS (adds (addS b r) t) = _; rw [b2, a2]; simp only [lenS]; omega, fun x h0 h1 => ?_⟩
    show imgAt (adds (addS b r) t) x = _
    simp only [lenS] at h1
    rw [b3 x h0 (by rw [a2]; omega), imgAt_append _ _ _ a1 h0, a2, show b ++ r :: t = b ++ [r] ++ t by simp, imgAt_append (b ++ [r]) _ _ ((goods_append _ _).2 ⟨hb, hr, trivial⟩) h0, lenS_append, show lenS [r] = r.2.1 by simp [lenS]]
    by_cases h : x < lenS b + r.2.1
    · rw [if_pos h, if_pos h, a3 x h0 h]
    · rw [if_neg h, if_neg h]

theorem pieces_spec : ∀ (m : List Rn) (a b : Int), goods m → a < b → b ≤ lenS m → 0 ≤ b →
    goods (pieces m a b) ∧ lenS (pieces m a b) = b - max a 0 ∧ ∀ x, 0 ≤ x → x < b - max a 0 → imgAt (pieces m a b) x = imgAt m (max a 0 + x)
  | [], a, b, _, h1, h2, h3 => by
    simp only [lenS] at h2
    refine ⟨trivial, by simp only [pieces, lenS]; omega, fun x h0 hx => by omega⟩
  | r :: t, a, b, ⟨hr, ht⟩, h1, h2, h3 => by
    have hr1 := hr.1
    have ht0 := lenS_nonneg ht
    simp only [lenS] at h2
    by_cases hb : b - r.2.1 ≤ 0
    · -- the end lies within the first run
      have hnil : pieces t (a - r.2.1) (b - r.2.1) = [] := by
        have : ∀ (t : List Rn) (a b : Int), b ≤ 0 → goods t → pieces t a b = [] := fun t => by
          induction t with
          | nil => intros; rfl
          | cons u v ih =>
            intro a b hb hg
            have := hg.1.1
            simp only [pieces]
            rw [if_neg (by omega), ih _ _ (by omega) hg.2]; rfl
        exact this t _ _ hb ht
      simp only [pieces, hnil, List.append_nil]
      by_cases hc : max a 0 < min b r.2.1
      · rw [if_pos hc]
        refine ⟨⟨prt_good hr (by omega) (by omega) (by omega), trivial⟩, ?_, fun x h0 hx => ?_⟩
        · simp only [lenS]; show min b r.2.1 - max a 0 + 0 = _; omega
        · have hlt : x < min b r.2.1 - max a 0 := by omega
          show (if x < min b r.2.1 - max a 0 then img (prt r (max a 0) (min b r.2.1 - max a 0)) x else 0) = if max a 0 + x < r.2.1 then img r (max a 0 + x) else imgAt t (max a 0 + x - r.2.1)
          rw [if_pos hlt, prt_img h0 hlt, if_pos (by omega)]
      · rw [if_neg hc]
        refine ⟨trivial, by simp only [lenS]; omega, fun x h0 hx => by omega⟩
    · obtain ⟨i1, i2, i3⟩ := pieces_spec t (a - r.2.1) (b - r.2.1) ht (by omega) (by omega) (by omega)
      simp only [pieces]
      by_cases hc : max a 0 < min b r.2.1
      · rw [if_pos hc]
        refine ⟨⟨prt_good hr (by omega) (by omega) (by omega), i1⟩, ?_, fun x h0 hx => ?_⟩
        · simp only [List.cons_append, List.nil_append, lenS, i2]; show min b r.2.1 - max a 0 + _ = _; omega
        · simp only [List.cons_append, List.nil_append, imgAt]
          show (if x < min b r.2.1 - max a 0 then _ else imgAt _ (x - (min b r.2.1 - max a 0))) = _
          by_cases hx2 : x < min b r.2.1 - max a 0
          · rw [if_pos hx2, prt_img h0 hx2, if_pos (by omega)]
          · rw [if_neg hx2, i3 _ (by omega) (by omega), if_neg (by omega)]
            congr 1; omega
      · rw [if_neg hc, List.nil_append]
        refine ⟨i1, by rw [i2]; omega, fun x h0 hx => ?_⟩
        rw [i3 x h0 (by omega)]
        simp only [imgAt]
        rw [if_neg (by omega)]
        congr 1; omega

theorem rvs1_good {p : Rn} (h : good p) : good (rvs1 p) ∧ (rvs1 p).2.1 = p.2.1 ∧ ∀ x, 0 ≤ x → x < p.2.1 → img (rvs1 p) x = img p (p.2.1 - 1 - x) := by
  have h1 := h.1
  have hi : ∀ x, 0 ≤ x → x < p.2.1 → img (rvs1 p) x = img p (p.2.1 - 1 - x) := fun x h0 hx => by
    unfold rvs1 img
    by_cases hl : p.2.1 > 1
    · rw [decide_eq_true hl, Bool.and_true]
      cases p.2.2 <;> simp only [Bool.not_false, Bool.not_true, Bool.false_eq_true, if_false, if_true] <;> omega
    · have : x = 0 := by omega
      subst this
      rw [decide_eq_false hl, Bool.and_false]
      simp
  refine ⟨good_of_ends h1 ?_ ?_, rfl, hi⟩
  · rw [hi 0 (by omega) (by omega)]; exact good_img h (by omega) (by omega)
  · show 0 ≤ img (rvs1 p) (p.2.1 - 1) ∧ img (rvs1 p) (p.2.1 - 1) < 17179869184
    rw [hi _ (by omega) (by omega)]; exact good_img h (by omega) (by omega)

theorem revs_spec : ∀ (l : List Rn), goods l → goods (l.reverse.map rvs1) ∧ lenS (l.reverse.map rvs1) = lenS l ∧ ∀ x, 0 ≤ x → x < lenS l → imgAt (l.reverse.map rvs1) x = imgAt l (lenS l - 1 - x)
  | [], _ => ⟨trivial, rfl, fun x _ h => by simp only [lenS] at h; omega⟩
  | r :: t, ⟨hr, ht⟩ => by
    obtain ⟨i1, i2, i3⟩ := revs_spec t ht
    obtain ⟨r1, r2, r3⟩ := rvs1_good hr
    have hr1 := hr.1
    have ht0 := lenS_nonneg ht
    have e : (r :: t).reverse.map rvs1 = t.reverse.map rvs1 ++ [rvs1 r] := by simp
    rw [e]
    refine ⟨(goods_append _ _).2 ⟨i1, r1, trivial⟩, ?_, fun x h0 hx => ?_⟩
    · rw [lenS_append, i2]; simp only [lenS, r2]; omega
    · simp only [lenS] at hx ⊢
      rw [imgAt_append _ _ _ i1 h0, i2]
      simp only [imgAt, r2]
      by_cases h : x < lenS t
      · rw [if_pos h, i3 x h0 h, if_neg (by omega)]
        congr 1; omega
      · rw [if_neg h, if_pos (by omega), if_pos (by omega), r3 _ (by omega) (by omega)]
        congr 1; omega

theorem steps_spec (outer : List Rn) (r : Rn) (ho : goods outer) (hr : good r) (hh : hi r < lenS outer) :
    goods (steps outer r) ∧ lenS (steps outer r) = r.2.1 ∧ ∀ x, 0 ≤ x → x < r.2.1 → imgAt (steps outer r) x = imgAt outer (img r x) := by
  obtain ⟨l1, l2, l3, l4⟩ := hr.lohi
  have hr1 := hr.1
  unfold steps
  unfold lo at l1 l2 l4
  unfold hi at l2 l3 l4 hh
  cases hb : r.2.2
  · rw [hb] at l1 l2 l3 l4 hh
    simp only [Bool.false_eq_true, if_false] at l1 l2 l3 l4 hh ⊢
    obtain ⟨p1, p2, p3⟩ := pieces_spec outer r.1 (r.1 + r.2.1) ho (by omega) (by omega) (by omega)
    refine ⟨p1, by rw [p2]; omega, fun x h0 hx => ?_⟩
    rw [p3 x h0 (by omega)]
    unfold img
    rw [hb]
    simp only [Bool.false_eq_true, if_false]
    congr 1; omega
  · rw [hb] at l1 l2 l3 l4 hh
    simp only [if_true] at l1 l2 l3 l4 hh ⊢
    obtain ⟨p1, p2, p3⟩ := pieces_spec outer (r.1 - r.2.1 + 1) (r.1 + 1) ho (by omega) (by omega) (by omega)
    obtain ⟨q1, q2, q3⟩ := revs_spec _ p1
    refine ⟨q1, by rw [q2, p2]; omega, fun x h0 hx => ?_⟩
    rw [q3 x h0 (by omega), p3 _ (by omega) (by omega), p2]
    unfold img
    rw [hb]
    simp only [if_true]
    congr 1; omega

theorem compS_spec (outer : List Rn) (ho : goods outer) : ∀ (inner b : List Rn), goods inner → fitsIn (lenS outer) inner → goods b →
    goods (inner.foldl (fun b r => adds b (steps outer r)) b) ∧ lenS (inner.foldl (fun b r => adds b (steps outer r)) b) = lenS b + lenS inner ∧
    ∀ x, 0 ≤ x → x < lenS b + lenS inner → imgAt (inner.foldl (fun b r => adds b (steps outer r)) b) x = if x < lenS b then imgAt b x else imgAt outer (imgAt inner (x - lenS b))
  | [], b, _, _, hb => ⟨hb, by simp [lenS], fun x h0 h1 => by simp only [lenS, Int.add_zero] at h1; simp only [List.foldl_nil]; rw [if_pos h1]⟩
  | r :: t, b, ⟨hr, ht⟩, ⟨hf, hft⟩, hb => by
    obtain ⟨s1, s2, s3⟩ := steps_spec outer r ho hr hf
    obtain ⟨a1, a2, a3⟩ := adds_spec (steps outer r) b hb s1
    obtain ⟨i1, i2, i3⟩ := compS_spec outer ho t (adds b (steps outer r)) ht hft a1
    have hr1 := hr.1
    have ht0 := lenS_nonneg ht
    simp only [List.foldl_cons, lenS]
    refine ⟨i1, by rw [i2, a2, s2]; omega, fun x h0 hx => ?_⟩
    rw [i3 x h0 (by rw [a2, s2]; omega), a2, s2]
    by_cases h : x < lenS b + r.2.1
    · rw [if_pos h, a3 x h0 (by rw [s2]; omega), imgAt_append _ _ _ hb h0]
      by_cases h2 : x < lenS b
      · rw [if_pos h2, if_pos h2]
      · rw [if_neg h2, if_neg h2, s3 _ (by omega) (by omega)]
        simp only [imgAt]
        rw [if_pos (by omega)]
    · rw [if_neg h, if_neg (by omega)]
      simp only [imgAt]
      rw [if_neg (by omega)]
      congr 2; omega

/-- a composition: valid, and the one map after the other -/
theorem comp_spec {inner outer m : List Rn} (h : comp inner outer = (m, 0)) : Chk inner ∧ Chk outer ∧ fitsIn (lenS outer) inner ∧ Chk m ∧ lenS m = lenS inner ∧ ∀ x, 0 ≤ x → x < lenS inner → imgAt m x = imgAt outer (imgAt inner x) := by
  unfold comp at h
  by_cases h1 : chk inner ≠ 0
  · rw [if_pos h1] at h; exact absurd (congrArg Prod.snd h) h1
  rw [if_neg h1] at h
  by_cases h2 : chk outer ≠ 0
  · rw [if_pos h2] at h; exact absurd (congrArg Prod.snd h) h2
  rw [if_neg h2] at h
  by_cases h3 : ¬ fitsIn (lenS outer) inner
  · rw [if_pos h3] at h; exact absurd (congrArg Prod.snd h) (fun e => by cases e)
  rw [if_neg h3] at h
  by_cases h4 : (compS inner outer).length > 256
  · rw [if_pos h4] at h; exact absurd (congrArg Prod.snd h) (fun e => by cases e)
  rw [if_neg h4] at h
  have h1 := chk_zero.1 (Classical.not_not.1 h1)
  have h2 := chk_zero.1 (Classical.not_not.1 h2)
  have h3 := Classical.not_not.1 h3
  have e : compS inner outer = m := congrArg Prod.fst h
  obtain ⟨c1, c2, c3⟩ := compS_spec outer h2.goods inner [] h1.goods h3 trivial
  have c1 : goods (compS inner outer) := c1
  have c2 : lenS (compS inner outer) = 0 + lenS inner := c2
  rw [e] at c1 c2 h4
  refine ⟨h1, h2, h3, ⟨by omega, c1, by rw [c2]; have := h1.tot; omega⟩, by omega, fun x h0 hx => ?_⟩
  have := c3 x h0 (by simp only [lenS]; omega)
  have this : imgAt (compS inner outer) x = _ := this
  rw [e] at this
  rw [this]
  simp only [lenS, if_neg (by omega : ¬ x < 0), Int.sub_zero]
theorem goods.bnds {b : List Rn} (h : goods b) : ∀ c ∈ b, Bnd c ∧ 1 ≤ c.2.1 := fun c hc => ⟨(h.mem c hc).bnd, (h.mem c hc).1⟩
theorem addS_len (b : List Rn) (r : Rn) : (addS b r).length ≤ b.length + 1 := by
  by_cases h0 : r.2.1 < 1
  · rw [addS_zero _ _ h0]; omega
  rcases List.eq_nil_or_concat b with rfl | ⟨pre, c, rfl⟩
  · rw [addS_nil _ h0]; simp
  rw [List.concat_eq_append, addS_last _ _ _ h0]
  cases apart c r
  · rw [cond_false]
    cases decide (r.2.1 > 1) && !(r.2.2 == (stp c r == -1))
    · rw [cond_false]; simp
    · rw [cond_true]; simp
  · rw [cond_true]; simp
theorem adds_len : ∀ (l b : List Rn), (adds b l).length ≤ b.length + l.length
  | [], b => by simp [adds]
  | r :: t, b => by
    have h1 := addS_len b r
    have h2 := adds_len t (addS b r)
    have : adds b (r :: t) = adds (addS b r) t := rfl
    rw [this]; simp only [List.length_cons]; omega
theorem pieces_len : ∀ (m : List Rn) (a b : Int), (pieces m a b).length ≤ m.length
  | [], _, _ => Nat.le_refl _
  | r :: t, a, b => by
    have := pieces_len t (a - r.2.1) (b - r.2.1)
    simp only [pieces, List.length_append, List.length_cons]
    split <;> simp <;> omega
theorem adds_append (b l m : List Rn) : adds b (l ++ m) = adds (adds b l) m := by unfold adds; rw [List.foldl_append]

/-- one piece, as the program has it -/
theorem piece_eq (r : Rn) (f t a : Int) : (if a > f then a else f) - a = max (f - a) 0 ∧ (if a + r.2.1 < t then a + r.2.1 else t) - (if a > f then a else f) = min (t - a) r.2.1 - max (f - a) 0 ∧ ((if a > f then a else f) < (if a + r.2.1 < t then a + r.2.1 else t) ↔ max (f - a) 0 < min (t - a) r.2.1) := by
  refine ⟨?_, ?_, ?_⟩ <;> split <;> (try split) <;> omega

structure EachOk (m : List Rn) (f t : Int) : Prop where
  goods : goods m
  len : m.length ≤ 300
  f0 : -1125899906842624 ≤ f ∧ f ≤ 1125899906842624
  t0 : -1125899906842624 ≤ t ∧ t ≤ 1125899906842624

theorem iso_each_add_l (k : Nat) (hk : 4 ≤ k) (m0 : List Rn) (f0 t0 : Int) (b0 : List Rn) (m : List Rn) (f t : Int) (ok : EachOk m f t) : ∀ (j i : Nat) (a : Int) (b : List Rn), i ≤ m.length → m.length - i < j → 0 ≤ a → a ≤ (i : Int) * 17179869184 → goods b → b.length ≤ 100000000 + i →
    f_u27_2 k m0 f0 t0 b0 j f t a m (m.length : Int) (i : Int) b = some (adds b (pieces (m.drop i) (f - a) (t - a))) := by
  obtain ⟨hg, hm, ⟨f1, f2⟩, t1, t2⟩ := ok
  intro j
  induction j with
  | zero => intros; omega
  | succ j ih =>
    intro i a b hi hj h0 ha hb hbl
    rw [f_u27_2]
    by_cases h : i < m.length
    · have hgr : good (m.getD i T0.dflt) := hg.mem _ (by simp [h])
      rw [decide_eq_true (by omega : (i : Int) < (m.length : Int)), cond_true, if_pos ⟨by omega, by omega⟩, drop_cons' m i T0.dflt h, Int.toNat_natCast]
      generalize m.getD i T0.dflt = r at hgr
      have hgr' := hgr
      obtain ⟨g1, g2, g3, g4, _⟩ := hgr
      obtain ⟨e1, e2, e3⟩ := piece_eq r f t a
      have m1 : -9223372036854775808 ≤ (if a > f then a else f) - a := by split <;> omega
      have m2 : (if a > f then a else f) - a < 9223372036854775808 := by split <;> omega
      have m3 : -9223372036854775808 ≤ (if a + r.snd.fst < t then a + r.snd.fst else t) - (if a > f then a else f) := by split <;> split <;> omega
      have m4 : (if a + r.snd.fst < t then a + r.snd.fst else t) - (if a > f then a else f) < 9223372036854775808 := by split <;> split <;> omega
      rw [wrap_id (i := a + r.snd.fst) (by omega) (by omega), wrap_id m1 m2, wrap_id m3 m4, wrapS i (by omega), e1, e2]
      have hrec : f - a - r.2.1 = f - (a + r.snd.fst) := by omega
      have hrec2 : t - a - r.2.1 = t - (a + r.snd.fst) := by omega
      by_cases hc : max (f - a) 0 < min (t - a) r.2.1
      · have hp := prt_good hgr' (x := max (f - a) 0) (n := min (t - a) r.2.1 - max (f - a) 0) (by omega) (by omega) (by omega)
        rw [decide_eq_true (e3.2 hc), cond_true, iso_part_s k r _ _ (by omega) (by omega) (by omega) (by omega), iso_part_v k r _ _ (by omega) (by omega) (by omega) (by omega)]
        rw [iso_add_s k hk b _ (by omega) hp.bnd hb.bnds, iso_add_v k hk b _ (by omega) hp.bnd hb.bnds, if_pos ⟨rfl, rfl⟩]
        rw [ih (i + 1) _ _ (by omega) (by omega) (by omega) (by omega) (addS_spec b _ hb hp).1 (by have := addS_len b (prt r (max (f - a) 0) (min (t - a) r.snd.fst - max (f - a) 0)); omega)]
        rw [pieces, if_pos hc, adds_append, hrec, hrec2]
        rfl
      · rw [decide_eq_false (fun x => hc (e3.1 x)), cond_false, ih (i + 1) _ _ (by omega) (by omega) (by omega) (by omega) hb (by omega), pieces, if_neg hc, List.nil_append, hrec, hrec2]
    · rw [decide_eq_false (by omega : ¬ (i : Int) < (m.length : Int)), cond_false, drop_all m i (by omega)]
      rfl
theorem iso_each_add_s (k : Nat) (hk : 304 ≤ k) (m : List Rn) (f t : Int) (ok : EachOk m f t) (b : List Rn) (hb : goods b) (hbl : b.length ≤ 100000000) : f_u27 k m f t b = some (adds b (pieces m f t)) := by
  unfold f_u27
  have := iso_each_add_l k (by omega) m f t b m f t ok k 0 0 b (by omega) (by have := ok.len; omega) (by omega) (by omega) hb (by omega)
  rw [Int.sub_zero, Int.sub_zero] at this
  exact this
theorem iso_each_add_v (k : Nat) (hk : 304 ≤ k) (m : List Rn) (f t : Int) (ok : EachOk m f t) (b : List Rn) (hb : goods b) (hbl : b.length ≤ 100000000) : v_u27 k m f t b = adds b (pieces m f t) := by
  unfold v_u27; rw [iso_each_add_s k hk m f t ok b hb hbl]; rfl

theorem iso_each_piece_l (k : Nat) (m0 : List Rn) (f0 t0 : Int) (b0 : List Rn) (m : List Rn) (f t : Int) (ok : EachOk m f t) : ∀ (j i : Nat) (a : Int) (b : List Rn), i ≤ m.length → m.length - i < j → 0 ≤ a → a ≤ (i : Int) * 17179869184 → b.length ≤ 100000000 + i →
    f_u28_2 k m0 f0 t0 b0 j f t a m (m.length : Int) (i : Int) b = some (b ++ pieces (m.drop i) (f - a) (t - a)) := by
  obtain ⟨hg, hm, ⟨f1, f2⟩, t1, t2⟩ := ok
  intro j
  induction j with
  | zero => intros; omega
  | succ j ih =>
    intro i a b hi hj h0 ha hbl
    rw [f_u28_2]
    by_cases h : i < m.length
    · have hgr : good (m.getD i T0.dflt) := hg.mem _ (by simp [h])
      rw [decide_eq_true (by omega : (i : Int) < (m.length : Int)), cond_true, if_pos ⟨by omega, by omega⟩, drop_cons' m i T0.dflt h, Int.toNat_natCast]
      generalize m.getD i T0.dflt = r at hgr
      obtain ⟨g1, g2, g3, g4, _⟩ := hgr
      obtain ⟨e1, e2, e3⟩ := piece_eq r f t a
      have m1 : -9223372036854775808 ≤ (if a > f then a else f) - a := by split <;> omega
      have m2 : (if a > f then a else f) - a < 9223372036854775808 := by split <;> omega
      have m3 : -9223372036854775808 ≤ (if a + r.snd.fst < t then a + r.snd.fst else t) - (if a > f then a else f) := by split <;> split <;> omega
      have m4 : (if a + r.snd.fst < t then a + r.snd.fst else t) - (if a > f then a else f) < 9223372036854775808 := by split <;> split <;> omega
      rw [wrap_id (i := a + r.snd.fst) (by omega) (by omega), wrap_id m1 m2, wrap_id m3 m4, wrapS i (by omega), e1, e2]
      have hrec : f - a - r.2.1 = f - (a + r.snd.fst) := by omega
      have hrec2 : t - a - r.2.1 = t - (a + r.snd.fst) := by omega
      by_cases hc : max (f - a) 0 < min (t - a) r.2.1
      · rw [decide_eq_true (e3.2 hc), cond_true, iso_part_s k r _ _ (by omega) (by omega) (by omega) (by omega), iso_part_v k r _ _ (by omega) (by omega) (by omega) (by omega)]
        have ec : ∀ p : Rn, f_u20 k p b = some (b ++ [p]) := fun p => by
          unfold f_u20
          rw [if_pos (by rw [List.length_singleton]; omega)]
        have ev : ∀ p : Rn, v_u20 k p b = b ++ [p] := fun p => by unfold v_u20; rw [ec]; rfl
        rw [ec, ev, if_pos ⟨rfl, rfl⟩, ih (i + 1) _ _ (by omega) (by omega) (by omega) (by omega) (by rw [List.length_append, List.length_singleton]; omega), pieces, if_pos hc, hrec, hrec2]
        simp
      · rw [decide_eq_false (fun x => hc (e3.1 x)), cond_false, ih (i + 1) _ _ (by omega) (by omega) (by omega) (by omega) (by omega), pieces, if_neg hc, List.nil_append, hrec, hrec2]
    · rw [decide_eq_false (by omega : ¬ (i : Int) < (m.length : Int)), cond_false, drop_all m i (by omega)]
      simp [pieces]
theorem iso_each_piece_s (k : Nat) (hk : 304 ≤ k) (m : List Rn) (f t : Int) (ok : EachOk m f t) : f_u28 k m f t [] = some (pieces m f t) := by
  unfold f_u28
  have := iso_each_piece_l k m f t [] m f t ok k 0 0 [] (by omega) (by have := ok.len; omega) (by omega) (by omega) (by simp)
  rw [Int.sub_zero, Int.sub_zero, List.nil_append] at this
  exact this
theorem iso_each_piece_v (k : Nat) (hk : 304 ≤ k) (m : List Rn) (f t : Int) (ok : EachOk m f t) : v_u28 k m f t [] = pieces m f t := by
  unfold v_u28; rw [iso_each_piece_s k hk m f t ok]; rfl

theorem iso_reversed_l (k : Nat) (hk : 4 ≤ k) (m0 b0 : List Rn) (m : List Rn) (hg : goods m) (hm : m.length ≤ 300) : ∀ (j i : Nat) (b : List Rn), i ≤ m.length → i < j → goods b → b.length ≤ 100000000 + (m.length - i) →
    f_u33_1 k m0 b0 j m ((i : Int) - 1) b = some (adds b ((m.take i).reverse.map rvs1)) := by
  intro j
  induction j with
  | zero => intros; omega
  | succ j ih =>
    intro i b hi hj hb hbl
    rw [f_u33_1]
    cases i with
    | zero =>
      rw [decide_eq_false (by omega), cond_false]
      rfl
    | succ i =>
      have hlt : i < m.length := by omega
      have hgr : good (m.getD i T0.dflt) := hg.mem _ (by simp [hlt])
      rw [show ((i + 1 : Nat) : Int) - 1 = (i : Int) by omega, decide_eq_true (by omega), cond_true, if_pos ⟨by omega, by omega⟩, Int.toNat_natCast, take_snoc m i T0.dflt hlt]
      generalize m.getD i T0.dflt = r at hgr
      obtain ⟨q1, _, _⟩ := rvs1_good hgr
      obtain ⟨g1, g2, g3, g4, _⟩ := hgr
      have er : (img r (r.snd.fst - 1), r.snd.fst, !r.snd.snd && decide (r.snd.fst > 1)) = rvs1 r := rfl
      rw [wrap_id (i := r.snd.fst - 1) (by omega) (by omega), wrap_id (i := (i : Int) - 1) (by omega) (by omega), iso_image_s k r _ (by omega) (by omega) (by omega) (by omega), iso_image_v k r _ (by omega) (by omega) (by omega) (by omega), er]
      rw [iso_add_s k hk b _ (by omega) q1.bnd hb.bnds, iso_add_v k hk b _ (by omega) q1.bnd hb.bnds, if_pos ⟨rfl, rfl⟩]
      rw [ih i _ (by omega) (by omega) (addS_spec b _ hb q1).1 (by have := addS_len b (rvs1 r); omega)]
      simp only [List.reverse_append, List.reverse_cons, List.reverse_nil, List.nil_append, List.cons_append, List.map_cons]
      rfl
theorem iso_reversed_s (k : Nat) (hk : 304 ≤ k) (m : List Rn) (hg : goods m) (hm : m.length ≤ 300) (b : List Rn) (hb : goods b) (hbl : b.length ≤ 100000000) : f_u33 k m b = some (adds b (m.reverse.map rvs1)) := by
  unfold f_u33
  rw [wrap_id (by omega) (by omega), iso_reversed_l k (by omega) m b m hg hm k m.length b (by omega) (by omega) hb (by omega), List.take_length]
theorem iso_reversed_v (k : Nat) (hk : 304 ≤ k) (m : List Rn) (hg : goods m) (hm : m.length ≤ 300) (b : List Rn) (hb : goods b) (hbl : b.length ≤ 100000000) : v_u33 k m b = adds b (m.reverse.map rvs1) := by
  unfold v_u33; rw [iso_reversed_s k hk m hg hm b hb hbl]; rfl

theorem max_ends {r : Rn} (h : good r) : (if img r (r.2.1 - 1) > r.1 then img r (r.2.1 - 1) else r.1) = hi r := by
  have h1 := h.1
  unfold img hi
  cases r.2.2 <;> simp only [Bool.false_eq_true, if_false, if_true] <;> split <;> omega
theorem min_ends {r : Rn} (h : good r) : (if img r (r.2.1 - 1) < r.1 then img r (r.2.1 - 1) else r.1) = lo r := by
  have h1 := h.1
  unfold img lo
  cases r.2.2 <;> simp only [Bool.false_eq_true, if_false, if_true] <;> split <;> omega

theorem steps_len (outer : List Rn) (r : Rn) : (steps outer r).length ≤ outer.length := by
  unfold steps
  split
  · simp only [List.length_map, List.length_reverse]; exact pieces_len _ _ _
  · exact pieces_len _ _ _

theorem iso_Compose16_l (k : Nat) (hk : 700 ≤ k) (inner outer : List Rn) (hin : Chk inner) (ho : Chk outer) (hf : fitsIn (lenS outer) inner) : ∀ (j i : Nat) (b : List Rn), i ≤ inner.length → inner.length - i < j → goods b → b.length ≤ i * 256 →
    f_u19_16 k j outer inner (inner.length : Int) (i : Int) b = some (if ((inner.drop i).foldl (fun b r => adds b (steps outer r)) b).length > 256 then ([], 8) else ((inner.drop i).foldl (fun b r => adds b (steps outer r)) b, 0)) := by
  have hil := hin.len
  have hol := ho.len
  have fitmem : ∀ {n : Int} {l : List Rn}, fitsIn n l → ∀ r ∈ l, hi r < n := fun {n l} => by
    induction l with
    | nil => intro _ r hr; simp at hr
    | cons u v ih =>
      rintro ⟨h1, h2⟩ r hr
      rcases List.mem_cons.1 hr with rfl | hr
      · exact h1
      · exact ih h2 r hr
  intro j
  induction j with
  | zero => intros; omega
  | succ j ih =>
    intro i b hi hj hb hbl
    rw [f_u19_16]
    by_cases h : i < inner.length
    · have hmem : inner.getD i T0.dflt ∈ inner := by simp [h]
      have hgr : good (inner.getD i T0.dflt) := hin.goods.mem _ hmem
      have hfr := fitmem hf _ hmem
      rw [decide_eq_true (by omega : (i : Int) < (inner.length : Int)), cond_true, if_pos ⟨by omega, by omega⟩, drop_cons' inner i T0.dflt h, Int.toNat_natCast]
      generalize inner.getD i T0.dflt = r at hgr hfr
      have hgr' := hgr
      obtain ⟨g1, g2, g3, g4, _⟩ := hgr
      obtain ⟨s1, s2, s3⟩ := steps_spec outer r ho.goods hgr' hfr
      have hsl := steps_len outer r
      have hal := adds_len (steps outer r) b
      have hag := (adds_spec (steps outer r) b hb s1).1
      rw [List.foldl_cons]
      cases hbk : r.snd.snd with
      | false =>
        have es : steps outer r = pieces outer r.1 (r.1 + r.2.1) := by unfold steps; rw [show r.2.2 = r.snd.snd from rfl, hbk, if_neg (by decide)]
        have ok : EachOk outer r.fst (r.fst + r.snd.fst) := ⟨ho.goods, by omega, ⟨by omega, by omega⟩, by omega, by omega⟩
        rw [Bool.not_false, cond_true, wrap_id (i := r.fst + r.snd.fst) (by omega) (by omega), iso_each_add_s k (by omega) outer _ _ ok b hb (by omega), iso_each_add_v k (by omega) outer _ _ ok b hb (by omega), Option.isSome_some, if_pos rfl, wrapS i (by omega), ← es]
        exact ih (i + 1) _ (by omega) (by omega) hag (by omega)
      | true =>
        have es : steps outer r = ((pieces outer (r.1 - r.2.1 + 1) (r.1 + 1)).reverse).map rvs1 := by unfold steps; rw [show r.2.2 = r.snd.snd from rfl, hbk, if_pos rfl]
        have ok : EachOk outer (r.fst - r.snd.fst + 1) (r.fst + 1) := ⟨ho.goods, by omega, ⟨by omega, by omega⟩, by omega, by omega⟩
        have hpl := pieces_len outer (r.fst - r.snd.fst + 1) (r.fst + 1)
        have hpg : goods (pieces outer (r.fst - r.snd.fst + 1) (r.fst + 1)) := (pieces_spec outer _ _ ho.goods (by omega) (by
          unfold Go.AM.hi at hfr
          rw [show r.2.2 = r.snd.snd from rfl, hbk, if_pos rfl] at hfr
          omega) (by omega)).1
        rw [Bool.not_true, cond_false, wrap_id (i := r.fst - r.snd.fst) (by omega) (by omega), wrap_id (i := r.fst - r.snd.fst + 1) (by omega) (by omega), wrap_id (i := r.fst + 1) (by omega) (by omega), iso_each_piece_s k (by omega) outer _ _ ok, iso_each_piece_v k (by omega) outer _ _ ok, Option.isSome_some, if_pos rfl]
        rw [iso_reversed_s k (by omega) _ hpg (by omega) b hb (by omega), iso_reversed_v k (by omega) _ hpg (by omega) b hb (by omega), Option.isSome_some, if_pos rfl, wrapS i (by omega), ← es]
        exact ih (i + 1) _ (by omega) (by omega) hag (by omega)
    · rw [decide_eq_false (by omega : ¬ (i : Int) < (inner.length : Int)), cond_false, drop_all inner i (by omega)]
      rw [List.foldl_nil]
      by_cases hl : b.length > 256
      · have e : f_u26 k b = some (.inl 8) := by
          unfold f_u26; rw [decide_eq_true (by omega), cond_true]
        have ev : v_u26 k b = .inl 8 := by unfold v_u26; rw [e]; rfl
        have ea : vA_u26 k b = 8 := by unfold vA_u26; rw [ev]; rfl
        rw [ev, e, ea, if_pos hl]; rfl
      · have e : f_u26 k b = some (.inr 0) := by
          unfold f_u26; rw [decide_eq_false (by omega), cond_false]
        have ev : v_u26 k b = .inr 0 := by unfold v_u26; rw [e]; rfl
        have ea : vB_u26 k b = 0 := by unfold vB_u26; rw [ev]; rfl
        rw [ev, e, ea, if_neg hl]; rfl

theorem iso_Compose9_l (k : Nat) (hk : 700 ≤ k) (inner outer : List Rn) (hin : Chk inner) (ho : Chk outer) (hf0 : fitsIn (lenS outer) inner → ∀ j, inner.length < j → f_u19_16 k j outer inner (inner.length : Int) 0 [] = some (if (compS inner outer).length > 256 then ([], 8) else (compS inner outer, 0))) : ∀ (j i : Nat), i ≤ inner.length → inner.length - i + inner.length + 1 < j → fitsIn (lenS outer) (inner.take i) →
    f_u19_9 k j inner outer (lenS outer) inner (inner.length : Int) (i : Int) = some (if ¬ fitsIn (lenS outer) inner then ([], 21) else if (compS inner outer).length > 256 then ([], 8) else (compS inner outer, 0)) := by
  have hil := hin.len
  have fitapp : ∀ {n : Int} (a b : List Rn), fitsIn n (a ++ b) ↔ fitsIn n a ∧ fitsIn n b := fun {n} a b => by
    induction a with
    | nil => simp [fitsIn]
    | cons u v ih => simp only [List.cons_append, fitsIn, ih]; exact and_assoc.symm
  intro j
  induction j with
  | zero => intros; omega
  | succ j ih =>
    intro i hi hj hf
    rw [f_u19_9]
    by_cases h : i < inner.length
    · have hmem : inner.getD i T0.dflt ∈ inner := by simp [h]
      have hgr : good (inner.getD i T0.dflt) := hin.goods.mem _ hmem
      have htk := take_snoc inner i T0.dflt h
      have hdr := drop_cons' inner i T0.dflt h
      rw [decide_eq_true (by omega : (i : Int) < (inner.length : Int)), cond_true, if_pos ⟨by omega, by omega⟩, Int.toNat_natCast]
      generalize inner.getD i T0.dflt = r at hgr htk hdr
      have hgr' := hgr
      obtain ⟨g1, g2, g3, g4, _⟩ := hgr
      rw [wrap_id (i := r.snd.fst - 1) (by omega) (by omega), iso_image_s k r _ (by omega) (by omega) (by omega) (by omega), iso_image_v k r _ (by omega) (by omega) (by omega) (by omega), Option.isSome_some, if_pos rfl, max_ends hgr']
      by_cases hlt : Go.AM.hi r < lenS outer
      · rw [decide_eq_false (by omega : ¬ Go.AM.hi r ≥ lenS outer), cond_false, wrapS i (by omega)]
        exact ih (i + 1) (by omega) (by omega) (by rw [htk, fitapp]; exact ⟨hf, hlt, trivial⟩)
      · rw [decide_eq_true (by omega : Go.AM.hi r ≥ lenS outer), cond_true, if_pos]
        intro hfit
        have : inner = inner.take i ++ inner.drop i := (List.take_append_drop i inner).symm
        rw [this, fitapp, hdr] at hfit
        exact hlt hfit.2.1
    · have : inner.take i = inner := List.take_of_length_le (by omega)
      rw [this] at hf
      rw [decide_eq_false (by omega : ¬ (i : Int) < (inner.length : Int)), cond_false, if_neg (Classical.not_not.2 hf)]
      exact hf0 hf j (by omega)
theorem iso_Compose_s (k : Nat) (hk : 700 ≤ k) (inner outer : List Rn) : f_u19 k inner outer = some (comp inner outer) := by
  unfold f_u19 comp
  rw [iso_Check_s k (by omega), iso_Check_v k (by omega), iso_Check_s k (by omega), iso_Check_v k (by omega), Option.isSome_some, Option.isSome_some, if_pos rfl]
  by_cases h1 : chk inner = 0
  · rw [show (chk inner != 0) = false by simp [h1], cond_false, if_pos rfl, if_neg (fun h : chk inner ≠ 0 => h h1)]
    by_cases h2 : chk outer = 0
    · have c1 := chk_zero.1 h1
      have c2 := chk_zero.1 h2
      have l1 := c1.len
      have l2 := c2.len
      rw [show (chk outer != 0) = false by simp [h2], cond_false, if_neg (fun h : chk outer ≠ 0 => h h2), iso_length_s k outer c2.goods (by omega) (by omega), iso_length_v k outer c2.goods (by omega) (by omega), Option.isSome_some, if_pos rfl]
      exact iso_Compose9_l k hk inner outer c1 c2 (fun hf j hj => iso_Compose16_l k hk inner outer c1 c2 hf j 0 [] (by omega) (by omega) trivial (by simp)) k 0 (by omega) (by omega) (by simp [fitsIn])
    · rw [show (chk outer != 0) = true by simp [h2], cond_true, if_pos h2]
  · rw [show (chk inner != 0) = true by simp [h1], cond_true, if_pos h1]
theorem iso_Compose_v (k : Nat) (hk : 700 ≤ k) (inner outer : List Rn) : v_u19 k inner outer = comp inner outer := by
  unfold v_u19; rw [iso_Compose_s k hk]; rfl
end Go.AM
namespace Go.AM
open Go

end Go.AM
namespace Go.AM
open Go Go.Proofs

theorem fitsIn.mem {n : Int} : ∀ {l : List Rn}, fitsIn n l → ∀ r ∈ l, hi r < n
  | [], _, r, hr => by simp at hr
  | u :: v, ⟨h1, h2⟩, r, hr => by
    rcases List.mem_cons.1 hr with rfl | hr
    · exact h1
    · exact fitsIn.mem h2 r hr
end Go.AM
namespace Go.AM
open Go

theorem asc_of_pairwise : ∀ (l : List Sp) (b : Int), (∀ s ∈ l, b ≤ s.1) → l.Pairwise (fun x y => x.1 ≤ y.1) → Asc b l
  | [], _, _, _ => trivial
  | s :: t, b, h, hp => by
    obtain ⟨h1, h2⟩ := List.pairwise_cons.1 hp
    exact ⟨h s (by simp), asc_of_pairwise t s.1 (fun u hu => h1 u hu) h2⟩

/-- the normal form -/
def nf (l : List Sp) : List Sp := jn0 (sortSP l)

theorem In.small {l : List Sp} (h : In 0 17179869184 l) : ∀ x ∈ l, SmallI x.1 := fun x hx => by
  obtain ⟨a, b, c⟩ := h.mem x hx
  exact ⟨a, by omega⟩
theorem nf_asc {l : List Sp} (h : In 0 17179869184 l) : Asc 0 (sortSP l) :=
  asc_of_pairwise _ 0 (fun s hs => (h.mem s ((perm_sortSP h.small).mem_iff.1 hs)).1) sorted_sortSP
theorem nf_nr {l : List Sp} (h : In 0 17179869184 l) : Nr (-1) (nf l) := jn0_nr _ _ (nf_asc h)
theorem nf_has {l : List Sp} (h : In 0 17179869184 l) (x : Int) : has (nf l) x ↔ has l x := by
  unfold nf
  rw [jn0_has _ 0 x (nf_asc h), has_perm (perm_sortSP h.small)]
theorem nf_in {l : List Sp} (h : In 0 17179869184 l) : In 0 17179869184 (nf l) :=
  jn0_in _ (In.of fun s hs => h.mem s ((perm_sortSP h.small).mem_iff.1 hs))
theorem nf_len {l : List Sp} (h : In 0 17179869184 l) : (nf l).length ≤ l.length := by
  have := jn0_len (sortSP l)
  rw [(perm_sortSP h.small).length_eq] at this
  exact this
theorem nf_uniq {l m : List Sp} (h : In 0 17179869184 l) (hm : Nr (-1) m) (he : ∀ x, has m x ↔ has l x) : m = nf l :=
  Nr.uniq hm (nf_nr h) fun x => (he x).trans (nf_has h x).symm
theorem nf_self {l : List Sp} (h : In 0 17179869184 l) (hn : Nr (-1) l) : nf l = l := (nf_uniq h hn fun _ => Iff.rfl).symm

/-- the error of a list of spans -/
def chkS (l : List Sp) : Int := if l.length > 256 then 8 else if l.all (fun s => decide (0 ≤ s.1 ∧ s.1 ≤ s.2 ∧ s.2 ≤ 17179869184)) = true then 0 else 1
theorem chkS_zero {l : List Sp} : chkS l = 0 ↔ l.length ≤ 256 ∧ In 0 17179869184 l := by
  unfold chkS
  constructor
  · intro h
    by_cases h1 : l.length > 256
    · rw [if_pos h1] at h; omega
    · rw [if_neg h1] at h
      by_cases h2 : l.all (fun s => decide (0 ≤ s.1 ∧ s.1 ≤ s.2 ∧ s.2 ≤ 17179869184)) = true
      · exact ⟨by omega, In.of fun s hs => of_decide_eq_true (List.all_eq_true.1 h2 s hs)⟩
      · rw [if_neg h2] at h; omega
  · rintro ⟨h1, h2⟩
    rw [if_neg (by omega), if_pos (List.all_eq_true.2 fun s hs => decide_eq_true (h2.mem s hs))]

/-- the normal form of a list of spans, or its error -/
def normS (l : List Sp) : List Sp × Int := if chkS l ≠ 0 then ([], chkS l) else (nf l, 0)
def totalS (l : List Sp) : Int × Int := if chkS l ≠ 0 then (0, chkS l) else (tot (nf l), 0)

end Go.AM
namespace Go.AM
open Go

/-! ### the reference's way to the normal form -/
def ins : List Int → Int → List Int
  | [], n => [n]
  | x :: t, n => if x < n then x :: ins t n else if x = n then x :: t else n :: x :: t
def hasB (l : List Sp) (x : Int) : Bool := l.any fun s => decide (s.1 ≤ x) && decide (x < s.2)
/-- between two neighbours of the list, the first of which is in the set -/
def seg (a : List Sp) : List Int → Int → Prop
  | x :: y :: t, z => (hasB a x = true ∧ x ≤ z ∧ z < y) ∨ seg a (y :: t) z
  | _, _ => False

theorem eqT_sp (a b : Sp) : eqT T15 a b = decide (a = b) := by
  show ((a.1 == b.1) && (a.2 == b.2)) = _
  by_cases h1 : a.1 = b.1 <;> by_cases h2 : a.2 = b.2 <;> simp [h1, h2, Prod.ext_iff]

theorem span_Check_l (k : Nat) (l : List Sp) (hl : l.length ≤ 256) : ∀ (j i : Nat), i ≤ l.length → l.length - i < j →
    f_u107_4 k j l (l.length : Int) (i : Int) = some (if (l.drop i).all (fun s => decide (0 ≤ s.1 ∧ s.1 ≤ s.2 ∧ s.2 ≤ 17179869184)) = true then 0 else 1) := by
  intro j
  induction j with
  | zero => intros; omega
  | succ j ih =>
    intro i hi hj
    rw [f_u107_4]
    by_cases h : i < l.length
    · rw [decide_eq_true (by omega : (i : Int) < (l.length : Int)), cond_true, if_pos ⟨by omega, by omega⟩, drop_cons' l i T15.dflt h, Int.toNat_natCast, List.all_cons]
      generalize l.getD i T15.dflt = s
      by_cases hs : 0 ≤ s.1 ∧ s.1 ≤ s.2 ∧ s.2 ≤ 17179869184
      · rw [decide_eq_false (by omega : ¬ s.fst < 0), decide_eq_false (by omega : ¬ s.fst > s.snd), decide_eq_false (by omega : ¬ s.snd > 17179869184), Bool.or_self, Bool.or_self, cond_false, wrapS i (by omega), ih (i + 1) (by omega) (by omega), decide_eq_true hs, Bool.true_and]
      · have : (decide (s.fst < 0) || decide (s.fst > s.snd) || decide (s.snd > 17179869184)) = true := by
          by_cases a : s.fst < 0
          · rw [decide_eq_true a]; rfl
          · by_cases b : s.fst > s.snd
            · rw [decide_eq_true b, Bool.or_true]; rfl
            · rw [decide_eq_true (by omega : s.snd > 17179869184), Bool.or_true]
        rw [this, cond_true, decide_eq_false hs, Bool.false_and, if_neg (by decide)]
    · rw [decide_eq_false (by omega : ¬ (i : Int) < (l.length : Int)), cond_false, drop_all l i (by omega)]
      rfl
theorem span_Check_s (k : Nat) (hk : 300 ≤ k) (l : List Sp) : f_u107 k l = some (chkS l) := by
  unfold f_u107 chkS
  by_cases h : l.length > 256
  · rw [decide_eq_true (by omega : (l.length : Int) > 256), cond_true, if_pos h]
  · rw [decide_eq_false (by omega : ¬ (l.length : Int) > 256), cond_false, if_neg h]
    exact span_Check_l k l (by omega) k 0 (by omega) (by omega)
theorem span_Check_v (k : Nat) (hk : 300 ≤ k) (l : List Sp) : v_u107 k l = chkS l := by
  unfold v_u107; rw [span_Check_s k hk]; rfl

theorem last_idxS (pre : List Sp) (c : Sp) (h : pre.length < 4611686018427387904) : (IntKind.i64.wrap (((pre ++ [c]).length : Int) - 1)).toNat = pre.length := by
  rw [List.length_append, List.length_singleton, wrap_id (by omega) (by omega)]; omega
theorem last_getS (pre : List Sp) (c d : Sp) : (pre ++ [c]).getD pre.length d = c := by simp
theorem last_setS (pre : List Sp) (c d : Sp) : (pre ++ [c]).set pre.length d = pre ++ [d] := by simp

theorem span_joined_l (k : Nat) (l : List Sp) (hl : l.length ≤ 100000) : ∀ (j i : Nat), i ≤ l.length → l.length - i < j →
    (∀ last : Sp, last.1 ≥ last.2 → f_u111_6 k j (l.length : Int) (i : Int) [] last l = some (jn0 (l.drop i))) ∧
    (∀ (pre : List Sp) (c last : Sp), pre.length ≤ i → (last.1 ≥ last.2 ∨ last.2 ≤ c.2) → f_u111_6 k j (l.length : Int) (i : Int) (pre ++ [c]) last l = some (pre ++ jn c (l.drop i))) := by
  intro j
  induction j with
  | zero => intros; omega
  | succ j ih =>
    intro i hi hj
    by_cases h : i < l.length
    · refine ⟨fun last hla => ?_, fun pre c last hp hla => ?_⟩
      · rw [f_u111_6, decide_eq_true (by omega : (i : Int) < (l.length : Int)), cond_true, if_pos ⟨by omega, by omega⟩, drop_cons' l i T15.dflt h, Int.toNat_natCast, eqT_sp, jn0]
        obtain ⟨ih1, ih2⟩ := ih (i + 1) (by omega) (by omega)
        generalize l.getD i T15.dflt = s at *
        by_cases q : s.1 ≥ s.2
        · rw [decide_eq_true q, Bool.true_or, cond_true, if_pos q, wrapS i (by omega)]
          exact ih1 s q
        · have hne : ¬ s = last := fun e => q (e ▸ hla)
          rw [decide_eq_false q, decide_eq_false hne, Bool.false_or, cond_false, if_neg q, wrapS i (by omega)]
          rw [if_pos ⟨fun e => (by simp at e), fun e => (by simp at e)⟩]
          show (bif decide ((0 : Int) > 0) && _ then _ else _) = _
          rw [decide_eq_false (by omega), Bool.false_and, cond_false, if_pos (by simp), List.nil_append]
          exact ih2 [] s s (by simp) (.inr (Int.le_refl _))
      · rw [f_u111_6, decide_eq_true (by omega : (i : Int) < (l.length : Int)), cond_true, if_pos ⟨by omega, by omega⟩, drop_cons' l i T15.dflt h, Int.toNat_natCast, eqT_sp, jn]
        obtain ⟨ih1, ih2⟩ := ih (i + 1) (by omega) (by omega)
        generalize l.getD i T15.dflt = s at *
        have hlen : (pre ++ [c]).length = pre.length + 1 := by simp
        by_cases q : s.1 ≥ s.2
        · rw [decide_eq_true q, Bool.true_or, cond_true, if_pos q, wrapS i (by omega)]
          exact ih2 pre c s (by omega) (.inl q)
        · rw [if_neg q, decide_eq_false q, Bool.false_or]
          by_cases he : s = last
          · have h2 : s.2 ≤ c.2 := by
              subst he
              rcases hla with h | h
              · exact absurd h q
              · exact h
            rw [decide_eq_true he, cond_true, wrapS i (by omega), if_pos (by omega), if_neg (by omega)]
            exact ih2 pre c s (by omega) (.inr h2)
          · have hidx : (0 : Int) ≤ IntKind.i64.wrap (((pre ++ [c]).length : Int) - 1) ∧ IntKind.i64.wrap (((pre ++ [c]).length : Int) - 1) < ((pre ++ [c]).length : Int) := by
              rw [hlen, wrap_id (by omega) (by omega)]; exact ⟨by omega, by omega⟩
            rw [decide_eq_false he, cond_false, if_pos ⟨fun _ => hidx.1, fun _ => hidx.2⟩, decide_eq_true (by rw [hlen]; omega), Bool.true_and, last_idxS pre c (by omega), last_getS, last_setS, wrapS i (by omega)]
            by_cases q2 : s.1 ≤ c.2
            · rw [decide_eq_true q2, cond_true, if_pos ⟨hidx.1, hidx.2, hidx.1, hidx.2⟩, if_pos q2]
              exact ih2 pre (c.1, if s.2 > c.2 then s.2 else c.2) s (by omega) (.inr (by show s.2 ≤ if s.2 > c.2 then s.2 else c.2; split <;> omega))
            · rw [decide_eq_false q2, cond_false, if_pos (by rw [hlen, List.length_singleton]; omega), if_neg q2]
              rw [ih2 (pre ++ [c]) s s (by simp; omega) (.inr (Int.le_refl _))]
              simp
    · have hd := drop_all l i (by omega)
      refine ⟨fun last hla => ?_, fun pre c last hp hla => ?_⟩
      · rw [f_u111_6, decide_eq_false (by omega : ¬ (i : Int) < (l.length : Int)), cond_false, hd]; rfl
      · rw [f_u111_6, decide_eq_false (by omega : ¬ (i : Int) < (l.length : Int)), cond_false, hd]; rfl
theorem span_joined_s (k : Nat) (l : List Sp) (h : In 0 17179869184 l) (hl : l.length ≤ 100000) (hk : l.length < k) : f_u111 k l = some (nf l) := by
  have e1 : f_u101 k l = some l := by
    unfold f_u101; rw [if_pos (by omega)]
  have v1 : v_u101 k l = l := by unfold v_u101; rw [e1]; rfl
  have e2 : f_u104 k l = some (sortSP l) := by
    unfold f_u104
    rw [if_pos ⟨List.all_eq_true.2 fun x hx => decide_eq_true (h.small x hx), by omega⟩]
  have v2 : v_u104 k l = sortSP l := by unfold v_u104; rw [e2]; rfl
  have hlen := (perm_sortSP h.small).length_eq
  unfold f_u111
  rw [e1, v1, e2, v2, Option.isSome_some, Option.isSome_some, if_pos rfl, if_pos rfl]
  exact (span_joined_l k (sortSP l) (by omega) k 0 (by omega) (by omega)).1 (0, 0) (Int.le_refl _)
theorem span_joined_v (k : Nat) (l : List Sp) (h : In 0 17179869184 l) (hl : l.length ≤ 100000) (hk : l.length < k) : v_u111 k l = nf l := by
  unfold v_u111; rw [span_joined_s k l h hl hk]; rfl

/-- the ends of spans -/
def ends2 : List Sp → List Int
  | [] => []
  | s :: t => s.1 :: s.2 :: ends2 t
theorem ends2_len : ∀ l : List Sp, (ends2 l).length = 2 * l.length
  | [] => rfl
  | s :: t => by simp only [ends2, List.length_cons, ends2_len t]; omega
theorem ends2_fst : ∀ (l : List Sp) (p : Nat), p < l.length → (ends2 l).getD (2 * p) 0 = (l.getD p (0, 0)).1
  | s :: t, 0, _ => rfl
  | s :: t, p + 1, h => by
    have := ends2_fst t p (by simpa using h)
    rw [show 2 * (p + 1) = 2 * p + 1 + 1 by omega]
    simpa [ends2] using this
theorem ends2_snd : ∀ (l : List Sp) (p : Nat), p < l.length → (ends2 l).getD (2 * p + 1) 0 = (l.getD p (0, 0)).2
  | s :: t, 0, _ => rfl
  | s :: t, p + 1, h => by
    have := ends2_snd t p (by simpa using h)
    rw [show 2 * (p + 1) + 1 = 2 * p + 1 + 1 + 1 by omega]
    simpa [ends2] using this
theorem ends2_append : ∀ (a b : List Sp), ends2 (a ++ b) = ends2 a ++ ends2 b
  | [], b => rfl
  | s :: t, b => by simp [ends2, ends2_append t b]
theorem ends2_sorted : ∀ {b : Int} {l : List Sp}, Nr b l → (ends2 l).Pairwise (fun x y => x ≤ y) ∧ ∀ x ∈ ends2 l, b ≤ x
  | _, [], _ => ⟨List.Pairwise.nil, by simp [ends2]⟩
  | b, s :: t, ⟨h1, h2, h3⟩ => by
    obtain ⟨i1, i2⟩ := ends2_sorted h3
    refine ⟨List.pairwise_cons.2 ⟨fun x hx => ?_, List.pairwise_cons.2 ⟨fun x hx => i2 x hx, i1⟩⟩, fun x hx => ?_⟩
    · rcases List.mem_cons.1 hx with rfl | hx
      · omega
      · have := i2 x hx; omega
    · rcases List.mem_cons.1 hx with rfl | hx
      · omega
      · rcases List.mem_cons.1 hx with rfl | hx
        · omega
        · have := i2 x hx; omega

/-- neighbours of a normal form -/
theorem Nr.get : ∀ {b : Int} {l : List Sp}, Nr b l → ∀ (p : Nat), p < l.length → (l.getD p (0, 0)).1 < (l.getD p (0, 0)).2 ∧ (p + 1 < l.length → (l.getD p (0, 0)).2 < (l.getD (p + 1) (0, 0)).1)
  | _, [], _, p, h => by simp at h
  | b, s :: t, ⟨h1, h2, h3⟩, 0, h => by
    refine ⟨h2, fun h' => ?_⟩
    cases t with
    | nil => simp at h'
    | cons u v => exact h3.1
  | b, s :: t, ⟨h1, h2, h3⟩, p + 1, h => by
    have := Nr.get h3 p (by simpa using h)
    simpa using this

theorem span_sets_end (k j : Nat) (a : List Sp) (h : In 0 17179869184 a) (hn : Nr (-1) a) (hl : a.length ≤ 256) (hk : 300 ≤ k) : f_u113_28 k (j + 1) a = some (a, 0) := by
  rw [f_u113_28, span_joined_s k a h (by omega) (by omega), span_joined_v k a h (by omega) (by omega), nf_self h hn, Option.isSome_some, if_pos rfl, decide_eq_false (by omega), cond_false]

theorem span_sets18_l (k : Nat) (hk : 300 ≤ k) (a : List Sp) (h : In 0 17179869184 a) (hn : Nr (-1) a) (hl : a.length ≤ 256) : ∀ (d p : Nat) (j : Nat), a.length - p = d → p ≤ a.length → 7 * d + 2 ≤ j →
    f_u113_18 k j a [] (p : Int) 0 ((ends2 a).length : Int) ((2 * p : Nat) : Int) (ends2 a) (a.take p) = some (a, 0) := by
  intro d
  induction d with
  | zero =>
    intro p j hd hp hj
    obtain ⟨j, rfl⟩ : ∃ m, j = m + 2 := ⟨j - 2, by omega⟩
    have hpa : p = a.length := by omega
    subst hpa
    rw [f_u113_18, ends2_len, decide_eq_false (by omega), cond_false, List.take_length]
    exact span_sets_end k j a h hn hl hk
  | succ d ih =>
    intro p j hd hp hj
    obtain ⟨j, rfl⟩ : ∃ m, j = m + 7 := ⟨j - 7, by omega⟩
    have hpl : p < a.length := by omega
    have hEl := ends2_len a
    have e1 := ends2_fst a p hpl
    have e2 := ends2_snd a p hpl
    obtain ⟨n1, n2⟩ := hn.get p hpl
    have htk := take_snoc a p (0, 0) hpl
    have hd0 : T15.dflt = ((0, 0) : Sp) := rfl
    have hz : (RTy.int IntKind.i64).dflt = (0 : Int) := rfl
    generalize hs : a.getD p (0, 0) = s at *
    -- the beginning of a span
    have b18 : f_u113_18 k (j + 7) a [] (p : Int) 0 ((ends2 a).length : Int) ((2 * p : Nat) : Int) (ends2 a) (a.take p) = f_u113_20 k (j + 6) a [] (p : Int) 0 ((2 * p : Nat) : Int) s.1 ((ends2 a).length : Int) ((2 * p : Nat) : Int) (ends2 a) (a.take p) := by
      rw [show j + 7 = (j + 6) + 1 by omega, f_u113_18, decide_eq_true (by omega), cond_true, if_pos ⟨by omega, by omega⟩, Int.toNat_natCast, hz, e1]
    have b20 : f_u113_20 k (j + 6) a [] (p : Int) 0 ((2 * p : Nat) : Int) s.1 ((ends2 a).length : Int) ((2 * p : Nat) : Int) (ends2 a) (a.take p) = f_u113_22 k (j + 5) a [] (p : Int) 0 ((2 * p : Nat) : Int) s.1 ((ends2 a).length : Int) ((2 * p : Nat) : Int) (ends2 a) (a.take p) := by
      rw [show j + 6 = (j + 5) + 1 by omega, f_u113_20, if_pos ⟨fun _ => by omega, fun _ => by omega⟩, Int.toNat_natCast, hd0, hs, decide_eq_false (by omega : ¬ s.2 ≤ s.1), Bool.and_false, cond_false]
    have b22 : f_u113_22 k (j + 5) a [] (p : Int) 0 ((2 * p : Nat) : Int) s.1 ((ends2 a).length : Int) ((2 * p : Nat) : Int) (ends2 a) (a.take p) = f_u113_18 k (j + 4) a [] (p : Int) 0 ((ends2 a).length : Int) ((2 * p + 1 : Nat) : Int) (ends2 a) (a.take (p + 1)) := by
      rw [show j + 5 = (j + 4) + 1 by omega, f_u113_22, if_pos ⟨fun e => by simp at e, fun e => by simp at e⟩, show (decide ((0 : Int) < (([] : List Sp).length : Int)) && _) = false from rfl, cond_false, wrapS (2 * p) (by omega)]
      rw [if_pos ⟨fun _ => by omega, fun _ => by omega⟩, Int.toNat_natCast, hz, e2, show ((((2 * p + 1 : Nat) : Int) == ((ends2 a).length : Int)) = false) from beqf (by omega), show (s.2 == s.1) = false from beqf (by omega), Bool.or_self, cond_false]
      rw [Int.toNat_natCast, hd0, hs, decide_eq_true (by omega : (p : Int) < (a.length : Int)), decide_eq_true (by omega : s.fst ≤ s.1), Bool.and_self]
      have ek : ∀ b, v_u109 k true b = true := fun b => rfl
      have ef : ∀ b, f_u109 k true b = some true := fun b => rfl
      rw [ek, ef, if_pos ⟨fun _ => by omega, fun _ => by omega, fun e => by simp at e, fun e => by simp at e, rfl⟩, cond_true, if_pos ⟨by omega, by omega, by rw [List.length_singleton, List.length_take]; omega⟩, htk]
    -- its end
    have c18 : f_u113_18 k (j + 4) a [] (p : Int) 0 ((ends2 a).length : Int) ((2 * p + 1 : Nat) : Int) (ends2 a) (a.take (p + 1)) = f_u113_20 k (j + 3) a [] (p : Int) 0 ((2 * p + 1 : Nat) : Int) s.2 ((ends2 a).length : Int) ((2 * p + 1 : Nat) : Int) (ends2 a) (a.take (p + 1)) := by
      rw [show j + 4 = (j + 3) + 1 by omega, f_u113_18, decide_eq_true (by omega), cond_true, if_pos ⟨by omega, by omega⟩, Int.toNat_natCast, hz, e2]
    have c20 : f_u113_20 k (j + 3) a [] (p : Int) 0 ((2 * p + 1 : Nat) : Int) s.2 ((ends2 a).length : Int) ((2 * p + 1 : Nat) : Int) (ends2 a) (a.take (p + 1)) = f_u113_20 k (j + 2) a [] ((p + 1 : Nat) : Int) 0 ((2 * p + 1 : Nat) : Int) s.2 ((ends2 a).length : Int) ((2 * p + 1 : Nat) : Int) (ends2 a) (a.take (p + 1)) := by
      rw [show j + 3 = (j + 2) + 1 by omega, f_u113_20, if_pos ⟨fun _ => by omega, fun _ => by omega⟩, Int.toNat_natCast, hd0, hs, decide_eq_true (by omega : s.snd ≤ s.2), decide_eq_true (by omega : (p : Int) < (a.length : Int)), Bool.and_self, cond_true, wrapS p (by omega)]
    by_cases hlast : p + 1 < a.length
    · have n2 := n2 hlast
      have e3 := ends2_fst a (p + 1) hlast
      obtain ⟨m1, _⟩ := hn.get (p + 1) hlast
      generalize hu : a.getD (p + 1) (0, 0) = u at *
      have d20 : f_u113_20 k (j + 2) a [] ((p + 1 : Nat) : Int) 0 ((2 * p + 1 : Nat) : Int) s.2 ((ends2 a).length : Int) ((2 * p + 1 : Nat) : Int) (ends2 a) (a.take (p + 1)) = f_u113_22 k (j + 1) a [] ((p + 1 : Nat) : Int) 0 ((2 * p + 1 : Nat) : Int) s.2 ((ends2 a).length : Int) ((2 * p + 1 : Nat) : Int) (ends2 a) (a.take (p + 1)) := by
        rw [show j + 2 = (j + 1) + 1 by omega, f_u113_20, if_pos ⟨fun _ => by omega, fun _ => by omega⟩, Int.toNat_natCast, hd0, hu, decide_eq_false (by omega : ¬ u.2 ≤ s.2), Bool.and_false, cond_false]
      have d22 : f_u113_22 k (j + 1) a [] ((p + 1 : Nat) : Int) 0 ((2 * p + 1 : Nat) : Int) s.2 ((ends2 a).length : Int) ((2 * p + 1 : Nat) : Int) (ends2 a) (a.take (p + 1)) = f_u113_18 k j a [] ((p + 1 : Nat) : Int) 0 ((ends2 a).length : Int) ((2 * (p + 1) : Nat) : Int) (ends2 a) (a.take (p + 1)) := by
        rw [f_u113_22, if_pos ⟨fun e => by simp at e, fun e => by simp at e⟩, show (decide ((0 : Int) < (([] : List Sp).length : Int)) && _) = false from rfl, cond_false, wrapS (2 * p + 1) (by omega), show 2 * p + 1 + 1 = 2 * (p + 1) by omega]
        rw [if_pos ⟨fun _ => by omega, fun _ => by omega⟩, Int.toNat_natCast, hz, e3, show ((((2 * (p + 1) : Nat) : Int) == ((ends2 a).length : Int)) = false) from beqf (by omega), show (u.1 == s.2) = false from beqf (by omega), Bool.or_self, cond_false]
        rw [Int.toNat_natCast, hd0, hu, decide_eq_false (by omega : ¬ u.fst ≤ s.2), Bool.and_false]
        have ek : ∀ b, v_u109 k false b = false := fun b => rfl
        have ef : ∀ b, f_u109 k false b = some false := fun b => rfl
        rw [ek, ef, if_pos ⟨fun _ => by omega, fun _ => by omega, fun e => by simp at e, fun e => by simp at e, rfl⟩, cond_false]
      rw [b18, b20, b22, c18, c20, d20, d22]
      exact ih (p + 1) j (by omega) (by omega) (by omega)
    · have hpa : p + 1 = a.length := by omega
      have d20 : f_u113_20 k (j + 2) a [] ((p + 1 : Nat) : Int) 0 ((2 * p + 1 : Nat) : Int) s.2 ((ends2 a).length : Int) ((2 * p + 1 : Nat) : Int) (ends2 a) (a.take (p + 1)) = f_u113_22 k (j + 1) a [] ((p + 1 : Nat) : Int) 0 ((2 * p + 1 : Nat) : Int) s.2 ((ends2 a).length : Int) ((2 * p + 1 : Nat) : Int) (ends2 a) (a.take (p + 1)) := by
        rw [show j + 2 = (j + 1) + 1 by omega, f_u113_20, if_pos ⟨fun _ => by omega, fun e => of_decide_eq_true e⟩, decide_eq_false (by omega : ¬ ((p + 1 : Nat) : Int) < (a.length : Int)), Bool.false_and, cond_false]
      have d22 : f_u113_22 k (j + 1) a [] ((p + 1 : Nat) : Int) 0 ((2 * p + 1 : Nat) : Int) s.2 ((ends2 a).length : Int) ((2 * p + 1 : Nat) : Int) (ends2 a) (a.take (p + 1)) = f_u113_18 k j a [] ((p + 1 : Nat) : Int) 0 ((ends2 a).length : Int) ((2 * (p + 1) : Nat) : Int) (ends2 a) (a.take (p + 1)) := by
        rw [f_u113_22, if_pos ⟨fun e => by simp at e, fun e => by simp at e⟩, show (decide ((0 : Int) < (([] : List Sp).length : Int)) && _) = false from rfl, cond_false, wrapS (2 * p + 1) (by omega), show 2 * p + 1 + 1 = 2 * (p + 1) by omega]
        have hq : (((2 * (p + 1) : Nat) : Int) == ((ends2 a).length : Int)) = true := by simp only [beq_iff_eq]; omega
        rw [hq, if_pos (show (true = false → (0 : Int) ≤ ((2 * (p + 1) : Nat) : Int)) ∧ (true = false → ((2 * (p + 1) : Nat) : Int) < ((ends2 a).length : Int)) from ⟨fun e => (by cases e), fun e => (by cases e)⟩), Bool.true_or, cond_true]
      rw [b18, b20, b22, c18, c20, d20, d22]
      exact ih (p + 1) j (by omega) (by omega) (by omega)

theorem span_concat_s (k : Nat) (hk : 10 ≤ k) (a : List Sp) (hl : a.length ≤ 1000) : f_u102 k [a, []] = some a := by
  obtain ⟨k, rfl⟩ : ∃ m, k = m + 10 := ⟨k - 10, by omega⟩
  have hg : f_u103 (k + 10) (a.length : Int) = some [] := by
    unfold f_u103; rw [if_pos ⟨by omega, by omega⟩]
  have hv : v_u103 (k + 10) (a.length : Int) = [] := by unfold v_u103; rw [hg]; rfl
  have L2 : (([a, []] : List (List Sp)).length : Int) = 2 := rfl
  unfold f_u102
  rw [L2]
  rw [f_u102_3, L2, decide_eq_true (by omega), cond_true, if_pos (show (0 : Int) ≤ 0 ∧ (0 : Int) < 2 from ⟨by omega, by omega⟩)]
  show (bif decide (IntKind.i64.wrap (0 + (a.length : Int)) < 0) then none else f_u102_3 (k + 10) (k + 9) [a, []] (IntKind.i64.wrap (0 + (a.length : Int))) [a, []] 2 (IntKind.i64.wrap (0 + 1))) = _
  rw [wrap_id (i := 0 + (a.length : Int)) (by omega) (by omega), Int.zero_add, decide_eq_false (by omega), cond_false, show IntKind.i64.wrap (0 + 1) = 1 from wrapS 0 (by omega)]
  rw [f_u102_3, L2, decide_eq_true (by omega), cond_true, if_pos (show (0 : Int) ≤ 1 ∧ (1 : Int) < 2 from ⟨by omega, by omega⟩)]
  show (bif decide (IntKind.i64.wrap ((a.length : Int) + (0 : Int)) < 0) then none else f_u102_3 (k + 10) (k + 8) [a, []] (IntKind.i64.wrap ((a.length : Int) + (0 : Int))) [a, []] 2 (IntKind.i64.wrap (1 + 1))) = _
  rw [wrap_id (i := (a.length : Int) + (0 : Int)) (by omega) (by omega), Int.add_zero, decide_eq_false (by omega), cond_false, show IntKind.i64.wrap (1 + 1) = 2 from wrapS 1 (by omega)]
  rw [f_u102_3, decide_eq_false (by omega), cond_false, hg, hv, Option.isSome_some, if_pos rfl]
  rw [L2, f_u102_11, L2, decide_eq_true (by omega), cond_true, if_pos (show (0 : Int) ≤ 0 ∧ (0 : Int) < 2 from ⟨by omega, by omega⟩)]
  show (if (([] : List Sp).length + a.length) * 16 ≤ 140737488355328 then f_u102_11 (k + 10) (k + 6) [a, []] 2 (IntKind.i64.wrap (0 + 1)) ([] ++ a) else none) = _
  rw [if_pos (show (([] : List Sp).length + a.length) * 16 ≤ 140737488355328 by rw [List.length_nil]; omega), show IntKind.i64.wrap (0 + 1) = 1 from wrapS 0 (by omega)]
  rw [f_u102_11, L2, decide_eq_true (by omega), cond_true, if_pos (show (0 : Int) ≤ 1 ∧ (1 : Int) < 2 from ⟨by omega, by omega⟩)]
  show (if (([] ++ a : List Sp).length + ([] : List Sp).length) * 16 ≤ 140737488355328 then f_u102_11 (k + 10) (k + 5) [a, []] 2 (IntKind.i64.wrap (1 + 1)) ([] ++ a ++ []) else none) = _
  rw [if_pos (show (([] ++ a : List Sp).length + ([] : List Sp).length) * 16 ≤ 140737488355328 by rw [List.length_nil, List.nil_append]; omega), show IntKind.i64.wrap (1 + 1) = 2 from wrapS 1 (by omega)]
  rw [f_u102_11, decide_eq_false (by omega), cond_false]
  show some ([] ++ a ++ []) = some a
  simp

theorem span_sets10_l (k : Nat) (hk : 300 ≤ k) (a : List Sp) (h : In 0 17179869184 a) (hn : Nr (-1) a) (hl : a.length ≤ 256) : ∀ (j i : Nat), i ≤ a.length → (a.length - i) + (7 * a.length + 3) ≤ j →
    f_u113_10 k j a [] (a.length : Int) (i : Int) (ends2 (a.take i)) a = some (a, 0) := by
  intro j
  induction j with
  | zero => intros; omega
  | succ j ih =>
    intro i hi hj
    rw [f_u113_10]
    by_cases h' : i < a.length
    · rw [decide_eq_true (by omega : (i : Int) < (a.length : Int)), cond_true, if_pos ⟨by omega, by omega⟩, Int.toNat_natCast, if_pos (by rw [ends2_len, List.length_take]; show (2 * min i a.length + 2) * 8 ≤ _; omega), wrapS i (by omega)]
      have := ih (i + 1) (by omega) (by omega)
      rw [take_snoc a i (0, 0) h', ends2_append] at this
      exact this
    · have hs : f_u105 k (ends2 a) = some (ends2 a) := by
        unfold f_u105
        rw [if_pos (by rw [ends2_len]; omega), List.mergeSort_of_pairwise]
        exact (ends2_sorted hn).1.imp fun h => decide_eq_true h
      have hv : v_u105 k (ends2 a) = ends2 a := by unfold v_u105; rw [hs]; rfl
      rw [decide_eq_false (by omega : ¬ (i : Int) < (a.length : Int)), cond_false, List.take_of_length_le (by omega), hs, hv, Option.isSome_some, if_pos rfl]
      exact span_sets18_l k hk a h hn hl a.length 0 j (by omega) (by omega) (by omega)

theorem span_Norm_s (k : Nat) (hk : 2100 ≤ k) (l : List Sp) : f_u108 k l = some (normS l) := by
  have e : f_u113 k l [] = some (normS l) := by
    unfold f_u113 normS
    rw [span_Check_s k (by omega), span_Check_v k (by omega), span_Check_s k (by omega), span_Check_v k (by omega), Option.isSome_some, if_pos rfl]
    by_cases h1 : chkS l = 0
    · obtain ⟨l1, l2⟩ := chkS_zero.1 h1
      have hnl := nf_len l2
      have h0 : In 0 17179869184 ([] : List Sp) := trivial
      rw [show (chkS l != 0) = false by simp [h1], cond_false, if_neg (fun h : chkS l ≠ 0 => h h1), Option.isSome_some, if_pos rfl, show (chkS [] != 0) = false from rfl, cond_false]
      rw [span_joined_s k l l2 (by omega) (by omega), span_joined_v k l l2 (by omega) (by omega), span_joined_s k [] h0 (by simp) (by simp; omega), span_joined_v k [] h0 (by simp) (by simp; omega), nf_self h0 trivial, if_pos ⟨rfl, rfl⟩]
      have hc := span_concat_s k (by omega) (nf l) (by omega)
      have hv : v_u102 k [nf l, []] = nf l := by unfold v_u102; rw [hc]; rfl
      rw [hc, hv, Option.isSome_some, if_pos rfl]
      exact span_sets10_l k (by omega) (nf l) (nf_in l2) (nf_nr l2) (by omega) k 0 (by omega) (by omega)
    · rw [show (chkS l != 0) = true by simp [h1], cond_true, if_pos h1]
  have ev : v_u113 k l [] = normS l := by unfold v_u113; rw [e]; rfl
  unfold f_u108
  rw [e, ev]; rfl
theorem span_Norm_v (k : Nat) (hk : 2100 ≤ k) (l : List Sp) : v_u108 k l = normS l := by
  unfold v_u108; rw [span_Norm_s k hk]; rfl

theorem span_Total_l (k : Nat) (a : List Sp) (h : In 0 17179869184 a) (hl : a.length ≤ 256) : ∀ (j i : Nat) (n : Int), i ≤ a.length → a.length - i < j → 0 ≤ n → n ≤ (i : Int) * 17179869184 →
    f_u110_6 k j n a (a.length : Int) (i : Int) = some (n + tot (a.drop i), 0) := by
  intro j
  induction j with
  | zero => intros; omega
  | succ j ih =>
    intro i n hi hj h0 h1
    rw [f_u110_6]
    by_cases h' : i < a.length
    · have hm := h.mem (a.getD i T15.dflt) (by simp [h'])
      rw [decide_eq_true (by omega : (i : Int) < (a.length : Int)), cond_true, if_pos ⟨by omega, by omega⟩, drop_cons' a i T15.dflt h', Int.toNat_natCast]
      generalize a.getD i T15.dflt = s at hm
      rw [wrap_id (i := s.snd - s.fst) (by omega) (by omega), wrap_id (i := n + (s.snd - s.fst)) (by omega) (by omega), wrapS i (by omega), ih (i + 1) _ (by omega) (by omega) (by omega) (by omega), tot, Int.add_assoc]
    · rw [decide_eq_false (by omega : ¬ (i : Int) < (a.length : Int)), cond_false, drop_all a i (by omega)]
      simp [tot]
theorem span_Total_s (k : Nat) (hk : 300 ≤ k) (l : List Sp) : f_u110 k l = some (totalS l) := by
  unfold f_u110 totalS
  rw [span_Check_s k (by omega), span_Check_v k (by omega), Option.isSome_some, if_pos rfl]
  by_cases h1 : chkS l = 0
  · obtain ⟨l1, l2⟩ := chkS_zero.1 h1
    have hnl := nf_len l2
    rw [show (chkS l != 0) = false by simp [h1], cond_false, if_neg (fun h : chkS l ≠ 0 => h h1), span_joined_s k l l2 (by omega) (by omega), span_joined_v k l l2 (by omega) (by omega), Option.isSome_some, if_pos rfl]
    have := span_Total_l k (nf l) (nf_in l2) (by omega) k 0 0 (by omega) (by omega) (by omega) (by omega)
    rw [Int.zero_add] at this
    exact this
  · rw [show (chkS l != 0) = true by simp [h1], cond_true, if_pos h1]
theorem span_Total_v (k : Nat) (hk : 300 ≤ k) (l : List Sp) : v_u110 k l = totalS l := by
  unfold v_u110; rw [span_Total_s k hk]; rfl
end Go.AM
namespace Go.AM
open Go

/-! ### registers of rolls -/
abbrev Ch := Int × Int × Bool × List Rn   -- Left, Width, Turn, Runs
abbrev Ro := Int × Int × Ch               -- ID, Parent, Cut
abbrev Pt := Int × Int × Int              -- Roll, Across, Along

def look (l : List Ro) (id : Int) : Option Ro := l.find? fun r => r.1 == id

def imageS (m : List Rn) : List Sp × Int := if chk m ≠ 0 then ([], chk m) else (nf (m.map spn), 0)
def singleS (m : List Rn) : Bool := decide (chk m = 0) && (tot (nf (m.map spn)) == lenS m)

/-- the size of a roll, or of the web -/
def sizeS (l : List Ro) (W L id : Int) : Int × Int := if id = 0 then (W, L) else match look l id with
  | some r => (r.2.2.2.1, lenS r.2.2.2.2.2)
  | none => (0, 0)

/-- the error of a cut of a roll of a size -/
def cutE (c : Ch) (w n : Int) : Int :=
  if c.1 < 0 ∨ c.2.1 < 1 ∨ c.1 > w ∨ c.2.1 > w - c.1 then 20 else if chk c.2.2.2 ≠ 0 then chk c.2.2.2 else if c.2.2.2 = [] then 10
  else if singleS c.2.2.2 = false then 12 else if fitsIn n c.2.2.2 then 0 else 21
/-- the error of a roll behind others -/
def fitsS (p : List Ro) (W L : Int) (r : Ro) : Int :=
  if r.1 < 1 ∨ r.1 > 1000000 then 1 else if r.2.1 ≠ 0 ∧ look p r.2.1 = none then 7 else cutE r.2.2 (sizeS p W L r.2.1).1 (sizeS p W L r.2.1).2

def meetS (a b : List Rn) : Bool := a.any fun x => b.any fun y => decide (lo x ≤ hi y) && decide (lo y ≤ hi x)
def ovlS (a b : Ch) : Bool := (decide (a.1 < b.1 + b.2.1) && decide (b.1 < a.1 + a.2.1)) && meetS a.2.2.2 b.2.2.2
def clash (p : List Ro) (r : Ro) : Bool := p.any fun b => (r.2.1 == b.2.1) && ovlS r.2.2 b.2.2

def errsGo (W L : Int) : List Ro → List Ro → Int
  | _, [] => 0
  | p, r :: t => if fitsS p W L r ≠ 0 then fitsS p W L r else errsGo W L (p ++ [r]) t
def dupGo : List Ro → List Ro → Bool
  | _, [] => false
  | p, r :: t => (look p r.1).isSome || dupGo (p ++ [r]) t
def clashGo : List Ro → List Ro → Bool
  | _, [] => false
  | p, r :: t => clash p r || clashGo (p ++ [r]) t

/-- the error of a register -/
def checkS (l : List Ro) (W L : Int) : Int :=
  if W < 1 ∨ W > 12000 ∨ L < 0 ∨ L > 17179869184 then 1 else if l.length > 512 then 8 else if errsGo W L [] l ≠ 0 then errsGo W L [] l
  else if dupGo [] l = true then 6 else if clashGo [] l = true then 12 else 0

theorem look_append (a b : List Ro) (id : Int) : look (a ++ b) id = (look a id).or (look b id) := by
  unfold look; exact List.find?_append
theorem look_some {l : List Ro} {id : Int} {r : Ro} (h : look l id = some r) : r ∈ l ∧ r.1 = id := by
  unfold look at h
  exact ⟨List.mem_of_find?_eq_some h, by have := List.find?_some h; simpa using this⟩
structure CutOk (c : Ch) (w n : Int) : Prop where
  left : 0 ≤ c.1
  width : 1 ≤ c.2.1
  right : c.1 + c.2.1 ≤ w
  chk : Chk c.2.2.2
  ne : c.2.2.2 ≠ []
  single : singleS c.2.2.2 = true
  fits : fitsIn n c.2.2.2
theorem cutE_zero {c : Ch} {w n : Int} : cutE c w n = 0 ↔ CutOk c w n := by
  unfold cutE
  constructor
  · intro h
    by_cases h1 : c.1 < 0 ∨ c.2.1 < 1 ∨ c.1 > w ∨ c.2.1 > w - c.1
    · rw [if_pos h1] at h; omega
    · rw [if_neg h1] at h
      by_cases h2 : chk c.2.2.2 ≠ 0
      · rw [if_pos h2] at h; exact absurd h h2
      · rw [if_neg h2] at h
        by_cases h3 : c.2.2.2 = []
        · rw [if_pos h3] at h; omega
        · rw [if_neg h3] at h
          by_cases h4 : singleS c.2.2.2 = false
          · rw [if_pos h4] at h; omega
          · rw [if_neg h4] at h
            by_cases h5 : fitsIn n c.2.2.2
            · exact ⟨by omega, by omega, by omega, chk_zero.1 (Classical.not_not.1 h2), h3, by simpa using h4, h5⟩
            · rw [if_neg h5] at h; omega
  · rintro ⟨h1, h2, h3, h4, h5, h6, h7⟩
    rw [if_neg (by omega), if_neg (fun h => h (chk_zero.2 h4)), if_neg h5, if_neg (by simp [h6]), if_pos h7]
structure FitOk (p : List Ro) (W L : Int) (r : Ro) : Prop where
  id0 : 1 ≤ r.1
  id1 : r.1 ≤ 1000000
  parent : r.2.1 = 0 ∨ ∃ q, look p r.2.1 = some q
  cut : CutOk r.2.2 (sizeS p W L r.2.1).1 (sizeS p W L r.2.1).2
theorem fitsS_zero {p : List Ro} {W L : Int} {r : Ro} : fitsS p W L r = 0 ↔ FitOk p W L r := by
  unfold fitsS
  constructor
  · intro h
    by_cases h1 : r.1 < 1 ∨ r.1 > 1000000
    · rw [if_pos h1] at h; omega
    · rw [if_neg h1] at h
      by_cases h2 : r.2.1 ≠ 0 ∧ look p r.2.1 = none
      · rw [if_pos h2] at h; omega
      · rw [if_neg h2] at h
        refine ⟨by omega, by omega, ?_, cutE_zero.1 h⟩
        by_cases h3 : r.2.1 = 0
        · exact .inl h3
        · right
          cases h4 : look p r.2.1 with
          | none => exact absurd ⟨h3, h4⟩ h2
          | some q => exact ⟨q, rfl⟩
  · rintro ⟨h1, h2, h3, h4⟩
    rw [if_neg (by omega), if_neg (fun h => by
      rcases h3 with h3 | ⟨q, h3⟩
      · exact h.1 h3
      · rw [h3] at h; cases h.2), cutE_zero.2 h4]

/-- a valid register: each roll fits behind those before it, is of a new number, and clashes with none -/
inductive Okp (W L : Int) : List Ro → Prop
  | nil : Okp W L []
  | snoc (p : List Ro) (r : Ro) (h : Okp W L p) (f : FitOk p W L r) (n : look p r.1 = none) (c : clash p r = false) : Okp W L (p ++ [r])
structure Reg (l : List Ro) (W L : Int) : Prop where
  w : 1 ≤ W ∧ W ≤ 12000
  len : 0 ≤ L ∧ L ≤ 17179869184
  num : l.length ≤ 512
  ok : Okp W L l
theorem okp_go {W L : Int} : ∀ (t p : List Ro), Okp W L p → errsGo W L p t = 0 → dupGo p t = false → clashGo p t = false → Okp W L (p ++ t)
  | [], p, h, _, _, _ => by simpa using h
  | r :: t, p, h, he, hd, hc => by
    rw [errsGo] at he
    rw [dupGo, Bool.or_eq_false_iff] at hd
    rw [clashGo, Bool.or_eq_false_iff] at hc
    have hf : fitsS p W L r = 0 := by
      by_cases q : fitsS p W L r = 0
      · exact q
      · rw [if_pos q] at he; exact absurd he q
    rw [if_neg (fun h => h hf)] at he
    have := okp_go t (p ++ [r]) (.snoc p r h (fitsS_zero.1 hf) (by cases e : look p r.1 <;> simp_all) hc.1) he hd.2 hc.2
    simpa using this
theorem go_okp {W L : Int} {l : List Ro} (h : Okp W L l) : ∀ (t p : List Ro), l = p ++ t → errsGo W L p t = 0 ∧ dupGo p t = false ∧ clashGo p t = false := by
  induction h with
  | nil =>
    intro t p e
    have : t = [] ∧ p = [] := by
      have := e.symm
      simp at this
      exact ⟨this.2, this.1⟩
    obtain ⟨rfl, rfl⟩ := this
    exact ⟨rfl, rfl, rfl⟩
  | snoc q r h f n c ih =>
    intro t p e
    rcases List.eq_nil_or_concat t with rfl | ⟨t', r', rfl⟩
    · exact ⟨rfl, rfl, rfl⟩
    · rw [List.concat_eq_append] at *
      rw [← List.append_assoc] at e
      obtain ⟨e1, e2⟩ := List.append_inj' e rfl
      simp only [List.cons.injEq, and_true] at e2
      subst e2
      obtain ⟨i1, i2, i3⟩ := ih t' p e1
      have key : ∀ (t' p : List Ro), errsGo W L p t' = 0 → dupGo p t' = false → clashGo p t' = false → fitsS (p ++ t') W L r = 0 → look (p ++ t') r.1 = none → clash (p ++ t') r = false → errsGo W L p (t' ++ [r]) = 0 ∧ dupGo p (t' ++ [r]) = false ∧ clashGo p (t' ++ [r]) = false := fun t' => by
        induction t' with
        | nil =>
          intro p _ _ _ a b c
          rw [List.append_nil] at a b c
          rw [List.nil_append, errsGo, dupGo, clashGo, if_neg (fun h => h a), b, c]
          exact ⟨rfl, rfl, rfl⟩
        | cons u v ih =>
          intro p a1 a2 a3 a4 a5 a6
          rw [errsGo] at a1
          rw [dupGo, Bool.or_eq_false_iff] at a2
          rw [clashGo, Bool.or_eq_false_iff] at a3
          have hf : fitsS p W L u = 0 := by
            by_cases q : fitsS p W L u = 0
            · exact q
            · rw [if_pos q] at a1; exact absurd a1 q
          rw [if_neg (fun h => h hf)] at a1
          have e3 : p ++ u :: v = p ++ [u] ++ v := by simp
          rw [e3] at a4 a5 a6
          obtain ⟨b1, b2, b3⟩ := ih (p ++ [u]) a1 a2.2 a3.2 a4 a5 a6
          rw [List.cons_append, errsGo, dupGo, clashGo, if_neg (fun h => h hf), a2.1, a3.1]
          exact ⟨b1, b2, b3⟩
      rw [e1] at f n c
      exact key t' p i1 i2 i3 (fitsS_zero.2 f) n c
theorem checkS_zero {l : List Ro} {W L : Int} : checkS l W L = 0 ↔ Reg l W L := by
  unfold checkS
  constructor
  · intro h
    by_cases h1 : W < 1 ∨ W > 12000 ∨ L < 0 ∨ L > 17179869184
    · rw [if_pos h1] at h; omega
    · rw [if_neg h1] at h
      by_cases h2 : l.length > 512
      · rw [if_pos h2] at h; omega
      · rw [if_neg h2] at h
        by_cases h3 : errsGo W L [] l ≠ 0
        · rw [if_pos h3] at h; exact absurd h h3
        · rw [if_neg h3] at h
          by_cases h4 : dupGo [] l = true
          · rw [if_pos h4] at h; omega
          · rw [if_neg h4] at h
            by_cases h5 : clashGo [] l = true
            · rw [if_pos h5] at h; omega
            · have := okp_go l [] (W := W) (L := L) .nil (Classical.not_not.1 h3) (by simpa using h4) (by simpa using h5)
              exact ⟨by omega, by omega, by omega, by simpa using this⟩
  · rintro ⟨h1, h2, h3, h4⟩
    obtain ⟨a, b, c⟩ := go_okp h4 l [] rfl
    rw [if_neg (by omega), if_neg (by omega), if_neg (fun h => h a), if_neg (by rw [b]; decide), if_neg (by rw [c]; decide)]
end Go.AM
