/- Contracts of the functions that the law reaches, and the plain law. -/
import Derived.Test.YtbenjjjcafbmmaaLibb
import Derived.Test.YtbenjjjcafbmmaaProg
import Derived.Laws.RangeAny
import Derived.Lib.IndexAny
import Derived.Shelf.Strings.IndexAnyAll
import Derived.Shelf.Small.Utf8
import Derived.Shelf.SlicesE.Clone
import Derived.Shelf.SlSortCmp.WholeK
import Derived.Shelf.SlSortCmp.NoneTotal
import Derived.Shelf.Sort.Plain
import Derived.Shelf.Slices.In.SortNone
import Derived.Shelf.Spec.SlicesGrow
import Derived.Shelf.SlGeneric
import Derived.Shelf.Small.Bits
import Derived.Ground.NamesProg
import Derived.Ground.Names2Prog
import Derived.Ground.Names8Prog
import Derived.Ground.SlgnProg
import Derived.Ground.SlsfProg
set_option linter.unusedVariables false
set_option linter.unusedSimpArgs false
set_option linter.unusedSectionVars false
namespace Go.AM
open Go Go.IntKind

theorem take_snoc {α : Type} (l : List α) (i : Nat) (d : α) (h : i < l.length) : l.take (i + 1) = l.take i ++ [l.getD i d] := by
 rw [List.take_add_one]; simp [h]

/-! ### sets of integers as lists of spans -/
abbrev Sp := Int × Int

/-- x is in one of the spans -/
def has : List Sp → Int → Prop
 | [], _ => False
 | s :: t, x => (s.1 ≤ x ∧ x < s.2) ∨ has t x

theorem has_iff (l : List Sp) (x : Int) : has l x ↔ ∃ s ∈ l, s.1 ≤ x ∧ x < s.2 := by
 induction l with
 | nil => simp [has]
 | cons s t ih => simp [has, ih]

theorem has_perm {a b : List Sp} (h : a.Perm b) (x : Int) : has a x ↔ has b x := by
 rw [has_iff, has_iff]
 exact ⟨fun ⟨s, hs, h2⟩ => ⟨s, h.mem_iff.1 hs, h2⟩, fun ⟨s, hs, h2⟩ => ⟨s, h.mem_iff.2 hs, h2⟩⟩

/-- spans that have integers, in order, apart, all behind b -/
def Nr : Int → List Sp → Prop
 | _, [] => True
 | b, s :: t => b < s.1 ∧ s.1 < s.2 ∧ Nr s.2 t

theorem Nr.weaken {a b : Int} (h : a ≤ b) : ∀ {l : List Sp}, Nr b l → Nr a l
 | [], _ => trivial
 | _ :: _, ⟨h1, h2, h3⟩ => ⟨by omega, h2, h3⟩

theorem Nr.low : ∀ {b : Int} {l : List Sp}, Nr b l → ∀ x, has l x → b < x
 | _, [], _, x, hx => hx.elim
 | b, s :: t, ⟨h1, h2, h3⟩, x, hx => by
  rcases hx with ⟨h, _⟩ | hx
  ·omega
  ·have := Nr.low h3 x hx; omega

theorem Nr.uniq : ∀ {b : Int} {l m : List Sp}, Nr b l → Nr b m → (∀ x, has l x ↔ has m x) → l = m
 | _, [], [], _, _, _ => rfl
 | b, [], s :: t, _, ⟨h1, h2, _⟩, h => ((h s.1).2 (.inl ⟨by omega, h2⟩)).elim
 | b, s :: t, [], ⟨h1, h2, _⟩, _, h => ((h s.1).1 (.inl ⟨by omega, h2⟩)).elim
 | b, s :: t, u :: v, ⟨h1, h2, h3⟩, ⟨k1, k2, k3⟩, h => by
  have e1 : s.1 = u.1 := by
   have a1 := (h s.1).1 (.inl ⟨by omega, h2⟩)
   have a2 := (h u.1).2 (.inl ⟨by omega, k2⟩)
   rcases a1 with a1 | a1
   ·rcases a2 with a2 | a2
    ·omega
    ·have := Nr.low h3 _ a2; omega
   ·have := Nr.low k3 _ a1
    rcases a2 with a2 | a2
    ·omega
    ·have := Nr.low h3 _ a2; omega
  have e2 : s.2 = u.2 := by
   rcases Int.lt_trichotomy s.2 u.2 with hlt | heq | hgt
   ·have a1 := (h s.2).2 (.inl ⟨by omega, hlt⟩)
    rcases a1 with a1 | a1
    ·omega
    ·have := Nr.low h3 _ a1; omega
   ·exact heq
   ·have a1 := (h u.2).1 (.inl ⟨by omega, hgt⟩)
    rcases a1 with a1 | a1
    ·omega
    ·have := Nr.low k3 _ a1; omega
  have e3 : s = u := Prod.ext e1 e2
  subst e3
  congr 1
  refine Nr.uniq h3 k3 fun x => ?_
  constructor
  ·intro hx
   have := Nr.low h3 _ hx
   rcases (h x).1 (.inr hx) with a | a
   ·omega
   ·exact a
  ·intro hx
   have := Nr.low k3 _ hx
   rcases (h x).2 (.inr hx) with a | a
   ·omega
   ·exact a

/-- the total of a list of spans -/
def tot : List Sp → Int
 | [] => 0
 | s :: t => (s.2 - s.1) + tot t

/-- joining spans that come in order of their beginnings -/
def jn : Sp → List Sp → List Sp
 | c, [] => [c]
 | c, s :: t => if s.1 ≥ s.2 then jn c t else if s.1 ≤ c.2 then jn (c.1, if s.2 > c.2 then s.2 else c.2) t else c :: jn s t
def jn0 : List Sp → List Sp
 | [] => []
 | s :: t => if s.1 ≥ s.2 then jn0 t else jn s t

def Asc : Int → List Sp → Prop
 | _, [] => True
 | b, s :: t => b ≤ s.1 ∧ Asc s.1 t
theorem Asc.weaken {a b : Int} (h : a ≤ b) : ∀ {l : List Sp}, Asc b l → Asc a l
 | [], _ => trivial
 | _ :: _, ⟨h1, h3⟩ => ⟨by omega, h3⟩

theorem jn_nr : ∀ (l : List Sp) (c : Sp) (b : Int), b < c.1 → c.1 < c.2 → Asc c.1 l → Nr b (jn c l)
 | [], c, b, h1, h2, _ => ⟨h1, h2, trivial⟩
 | s :: t, c, b, h1, h2, ⟨h3, h4⟩ => by
  unfold jn
  by_cases q : s.1 ≥ s.2
  ·rw [if_pos q]; exact jn_nr t c b h1 h2 (h4.weaken h3)
  ·rw [if_neg q]
   by_cases q2 : s.1 ≤ c.2
   ·rw [if_pos q2]
    refine jn_nr t _ b h1 ?_ (h4.weaken h3)
    show c.1 < if s.2 > c.2 then s.2 else c.2
    split <;> omega
   ·rw [if_neg q2]
    exact ⟨h1, h2, jn_nr t s c.2 (by omega) (by omega) h4⟩
theorem jn_has : ∀ (l : List Sp) (c : Sp) (x : Int), c.1 < c.2 → Asc c.1 l → (has (jn c l) x ↔ (c.1 ≤ x ∧ x < c.2) ∨ has l x)
 | [], c, x, _, _ => by simp [jn, has]
 | s :: t, c, x, h2, ⟨h3, h4⟩ => by
  unfold jn
  by_cases q : s.1 ≥ s.2
  ·rw [if_pos q, jn_has t c x h2 (h4.weaken h3)]
   simp only [has]
   constructor
   ·rintro (h | h)
    ·exact .inl h
    ·exact .inr (.inr h)
   ·rintro (h | h | h)
    ·exact .inl h
    ·omega
    ·exact .inr h
  ·rw [if_neg q]
   by_cases q2 : s.1 ≤ c.2
   ·rw [if_pos q2, jn_has t (c.1, if s.2 > c.2 then s.2 else c.2) x (by show c.1 < if s.2 > c.2 then s.2 else c.2; split <;> omega) (h4.weaken h3)]
    simp only [has]
    constructor
    ·rintro (h | h)
     ·by_cases q3 : x < c.2
      ·exact .inl ⟨h.1, q3⟩
      ·refine .inr (.inl ⟨by omega, ?_⟩)
       have := h.2
       split at this <;> omega
     ·exact .inr (.inr h)
    ·rintro (h | h | h)
     ·exact .inl ⟨h.1, by split <;> omega⟩
     ·exact .inl ⟨by omega, by split <;> omega⟩
     ·exact .inr h
   ·rw [if_neg q2]
    simp only [has, jn_has t s x (by omega) h4]
theorem jn0_nr : ∀ (l : List Sp) (b : Int), Asc (b + 1) l → Nr b (jn0 l)
 | [], b, _ => trivial
 | s :: t, b, ⟨h3, h4⟩ => by
  unfold jn0
  by_cases q : s.1 ≥ s.2
  ·rw [if_pos q]; exact jn0_nr t b (h4.weaken h3)
  ·rw [if_neg q]; exact jn_nr t s b (by omega) (by omega) h4
theorem jn0_has : ∀ (l : List Sp) (b x : Int), Asc b l → (has (jn0 l) x ↔ has l x)
 | [], b, x, _ => Iff.rfl
 | s :: t, b, x, ⟨h3, h4⟩ => by
  unfold jn0
  by_cases q : s.1 ≥ s.2
  ·rw [if_pos q, jn0_has t _ x h4]
   simp only [has]
   exact ⟨.inr, fun h => h.elim (fun h => by omega) id⟩
  ·rw [if_neg q, jn_has t s x (by omega) h4]; rfl

theorem jn_len : ∀ (l : List Sp) (c : Sp), (jn c l).length ≤ l.length + 1
 | [], c => by simp [jn]
 | s :: t, c => by
  unfold jn
  split
  ·have := jn_len t c; simp; omega
  ·split
   ·have := jn_len t (c.1, if s.2 > c.2 then s.2 else c.2); simp at this ⊢; omega
   ·have := jn_len t s; simp; omega
theorem jn0_len : ∀ (l : List Sp), (jn0 l).length ≤ l.length
 | [] => Nat.le_refl _
 | s :: t => by
  unfold jn0
  split
  ·have := jn0_len t; simp; omega
  ·have := jn_len t s; simpa using this

/-- spans within bounds -/
def In (a b : Int) : List Sp → Prop
 | [] => True
 | s :: t => (a ≤ s.1 ∧ s.1 ≤ s.2 ∧ s.2 ≤ b) ∧ In a b t
theorem In.mem {a b : Int} : ∀ {l : List Sp}, In a b l → ∀ s ∈ l, a ≤ s.1 ∧ s.1 ≤ s.2 ∧ s.2 ≤ b
 | [], _, s, hs => by simp at hs
 | u :: t, ⟨h1, h2⟩, s, hs => by
  rcases List.mem_cons.1 hs with rfl | hs
  ·exact h1
  ·exact In.mem h2 s hs
theorem In.of {a b : Int} : ∀ {l : List Sp}, (∀ s ∈ l, a ≤ s.1 ∧ s.1 ≤ s.2 ∧ s.2 ≤ b) → In a b l
 | [], _ => trivial
 | u :: t, h => ⟨h u (by simp), In.of fun s hs => h s (by simp [hs])⟩
theorem jn_in {a b : Int} : ∀ (l : List Sp) (c : Sp), In a b l → (a ≤ c.1 ∧ c.1 ≤ c.2 ∧ c.2 ≤ b) → In a b (jn c l)
 | [], c, _, hc => ⟨hc, trivial⟩
 | s :: t, c, ⟨h1, h2⟩, hc => by
  unfold jn
  split
  ·exact jn_in t c h2 hc
  ·split
   ·refine jn_in t _ h2 ⟨hc.1, ?_, ?_⟩
    ·show c.1 ≤ if s.2 > c.2 then s.2 else c.2
     split <;> omega
    ·show (if s.2 > c.2 then s.2 else c.2) ≤ b
     split <;> omega
   ·exact ⟨hc, jn_in t s h2 h1⟩
theorem jn0_in {a b : Int} : ∀ (l : List Sp), In a b l → In a b (jn0 l)
 | [], h => h
 | s :: t, ⟨h1, h2⟩ => by
  unfold jn0
  split
  ·exact jn0_in t h2
  ·exact jn_in t s h2 h1
end Go.AM
namespace Go.AM
open Go Go.IntKind

/-! ### maps of integers as lists of runs -/
abbrev Rn := Int × Int × Bool   -- At, Len, Back

def good (r : Rn) : Prop := 1 ≤ r.2.1 ∧ r.2.1 ≤ 17179869184 ∧ 0 ≤ r.1 ∧ r.1 < 17179869184 ∧ (r.2.2 = true → 0 ≤ r.1 - r.2.1 + 1) ∧ (r.2.2 = false → r.1 + r.2.1 ≤ 17179869184)
instance (r : Rn) : Decidable (good r) := by unfold good; infer_instance

def lenS : List Rn → Int
 | [] => 0
 | r :: t => r.2.1 + lenS t

def goods : List Rn → Prop
 | [] => True
 | r :: t => good r ∧ goods t
instance : (l : List Rn) → Decidable (goods l)
 | [] => .isTrue trivial
 | r :: t => @instDecidableAnd _ _ _ (instDecidableGoods t)

/-- the error of a map -/
def chk (m : List Rn) : Int := if m.length > 256 then 8 else if goods m then (if lenS m > 17179869184 then 21 else 0) else 1

theorem lenS_append (a b : List Rn) : lenS (a ++ b) = lenS a + lenS b := by
 induction a with
 | nil => simp [lenS]
 | cons r t ih => simp only [List.cons_append, lenS, ih]; omega
theorem goods_append (a b : List Rn) : goods (a ++ b) ↔ goods a ∧ goods b := by
 induction a with
 | nil => simp [goods]
 | cons r t ih => simp only [List.cons_append, goods, ih]; exact and_assoc.symm
theorem goods.mem : ∀ {l : List Rn}, goods l → ∀ r ∈ l, good r
 | [], _, r, h => by simp at h
 | u :: t, ⟨h1, h2⟩, r, hr => by
  rcases List.mem_cons.1 hr with rfl | hr
  ·exact h1
  ·exact goods.mem h2 r hr
theorem goods.of : ∀ {l : List Rn}, (∀ r ∈ l, good r) → goods l
 | [], _ => trivial
 | u :: t, h => ⟨h u (by simp), goods.of fun r hr => h r (by simp [hr])⟩
theorem lenS_nonneg : ∀ {l : List Rn}, goods l → (l.length : Int) ≤ lenS l
 | [], _ => by simp [lenS]
 | r :: t, ⟨h1, h2⟩ => by
  have := lenS_nonneg h2
  have := h1.1
  simp only [lenS, List.length_cons]; omega
structure Chk (m : List Rn) : Prop where
 len : m.length ≤ 256
 goods : goods m
 tot : lenS m ≤ 17179869184
theorem chk_zero {m : List Rn} : chk m = 0 ↔ Chk m := by
 unfold chk
 constructor
 ·intro h
  by_cases h1 : m.length > 256
  ·rw [if_pos h1] at h; omega
  ·rw [if_neg h1] at h
   by_cases h2 : goods m
   ·rw [if_pos h2] at h
    by_cases h3 : lenS m > 17179869184
    ·rw [if_pos h3] at h; omega
    ·exact ⟨by omega, h2, by omega⟩
   ·rw [if_neg h2] at h; omega
 ·rintro ⟨h1, h2, h3⟩
  rw [if_neg (by omega), if_pos h2, if_neg (by omega)]

/-- the image of an integer of a run -/
def img (r : Rn) (x : Int) : Int := if r.2.2 = true then r.1 - x else r.1 + x

/-- the image of an integer of a map -/
def imgAt : List Rn → Int → Int
 | [], _ => 0
 | r :: t, x => if x < r.2.1 then img r x else imgAt t (x - r.2.1)

def lo (r : Rn) : Int := if r.2.2 = true then r.1 - r.2.1 + 1 else r.1
def hi (r : Rn) : Int := if r.2.2 = true then r.1 else r.1 + r.2.1 - 1
/-- the span of the images of a run -/
def spn (r : Rn) : Sp := (lo r, hi r + 1)

theorem good.lohi {r : Rn} (h : good r) : 0 ≤ lo r ∧ lo r ≤ hi r ∧ hi r < 17179869184 ∧ hi r - lo r + 1 = r.2.1 := by
 obtain ⟨h1, h2, h3, h4, h5, h6⟩ := h
 unfold lo hi
 cases hb : r.2.2
 ·have := h6 hb; simp only [Bool.false_eq_true, if_false]; omega
 ·have := h5 hb; simp only [if_true]; omega
theorem img_mem {r : Rn} {x : Int} (h0 : 0 ≤ x) (h1 : x < r.2.1) : lo r ≤ img r x ∧ img r x ≤ hi r := by
 unfold lo hi img
 cases r.2.2 <;> simp only [Bool.false_eq_true, if_false, if_true] <;> omega

/-- n integers of a run, from the integer x on -/
def prt (r : Rn) (x n : Int) : Rn := (img r x, n, r.2.2 && decide (n > 1))

def stp (c r : Rn) : Int := r.1 - img c (c.2.1 - 1)
/-- does a run begin anew behind another one? -/
def apart (c r : Rn) : Bool := (stp c r != 1 && stp c r != -1) || (decide (c.2.1 > 1) && !((stp c r == -1) == c.2.2))
/-- a normal form with a further run -/
def addS (b : List Rn) (r : Rn) : List Rn :=
 if r.2.1 < 1 then b else match b.getLast? with
  | none => b ++ [prt r 0 r.2.1]
  | some c => bif apart c r then b ++ [prt r 0 r.2.1]
   else bif decide (r.2.1 > 1) && !(r.2.2 == (stp c r == -1)) then b.dropLast ++ [(c.1, c.2.1 + 1, stp c r == -1), prt r 1 (r.2.1 - 1)]
   else b.dropLast ++ [(c.1, c.2.1 + r.2.1, stp c r == -1)]

def adds (b : List Rn) (l : List Rn) : List Rn := l.foldl addS b

/-- the pieces of a part of a map -/
def pieces : List Rn → Int → Int → List Rn
 | [], _, _ => []
 | r :: t, a, b =>
  (if max a 0 < min b r.2.1 then [prt r (max a 0) (min b r.2.1 - max a 0)] else []) ++ pieces t (a - r.2.1) (b - r.2.1)

/-- a piece from its end -/
def rvs1 (p : Rn) : Rn := (img p (p.2.1 - 1), p.2.1, !p.2.2 && decide (p.2.1 > 1))

/-- the pieces of outer that an inner run comes to, in its order -/
def steps (outer : List Rn) (r : Rn) : List Rn :=
 if r.2.2 = true then ((pieces outer (r.1 - r.2.1 + 1) (r.1 + 1)).reverse).map rvs1 else pieces outer r.1 (r.1 + r.2.1)

/-- does a map come out of another one? -/
def fitsIn (n : Int) : List Rn → Prop
 | [] => True
 | r :: t => hi r < n ∧ fitsIn n t
instance (n : Int) : (l : List Rn) → Decidable (fitsIn n l)
 | [] => .isTrue trivial
 | r :: t => @instDecidableAnd _ _ _ (instDecidableFitsIn n t)

/-- the composition, in normal form, without its limit -/
def compS (inner outer : List Rn) : List Rn := inner.foldl (fun b r => adds b (steps outer r)) []

/-- the composition or its error -/
def comp (inner outer : List Rn) : List Rn × Int :=
 if chk inner ≠ 0 then ([], chk inner) else if chk outer ≠ 0 then ([], chk outer) else if ¬ fitsIn (lenS outer) inner then ([], 21)
 else if (compS inner outer).length > 256 then ([], 8) else (compS inner outer, 0)
end Go.AM
namespace Go.AM
open Go Go.Proofs
set_option linter.unusedVariables false
noncomputable section
theorem cond_t {α : Type} {b : Bool} {x y : α} (c : b = true) : cond b x y = x := by subst c; rfl
theorem cond_f {α : Type} {b : Bool} {x y : α} (c : b = false) : cond b x y = y := by subst c; rfl
abbrev I : RTy := .int .i64
def lft {α β : Type} (d : α) : α ⊕ β → α
  | .inl a => a
  | .inr _ => d
def rgt {α β : Type} (d : β) : α ⊕ β → β
  | .inr a => a
  | .inl _ => d
abbrev t7 : RTy := (RTy.pair I (RTy.pair I (RTy.pair RTy.bool (RTy.int .u8))))
abbrev t8 : RTy := (RTy.pair I (RTy.pair I (RTy.pair RTy.bool (RTy.int .u8))))
abbrev t13 : RTy := (RTy.pair RTy.str (RTy.int .u64))
abbrev t14 : RTy := (RTy.pair RTy.str (RTy.int .u64))
abbrev T0 : RTy := (RTy.pair I (RTy.pair I RTy.bool))
abbrev T1 : RTy := (RTy.pair I (RTy.pair I (RTy.pair RTy.bool (RTy.list T0))))
abbrev T2 : RTy := (RTy.pair I (RTy.pair I T1))
abbrev t23 : RTy := (RTy.pair (RTy.list T2) (RTy.pair I I))
abbrev T3 : RTy := (RTy.pair (RTy.list T2) (RTy.pair I I))
abbrev t25 : RTy := (RTy.pair I (RTy.pair I I))
abbrev T4 : RTy := (RTy.pair I (RTy.pair I I))
abbrev t33 : RTy := (RTy.pair I I)
abbrev T5 : RTy := (RTy.pair I I)
abbrev t37 : RTy := (RTy.pair I (RTy.pair I (RTy.pair RTy.bool (RTy.list T0))))
abbrev t45 : RTy := (RTy.pair I (RTy.pair I T1))
abbrev t56 : RTy := (RTy.pair I (RTy.pair I RTy.bool))
abbrev t91 : RTy := (RTy.list T0)
abbrev T6 : RTy := (RTy.list T0)
abbrev T7 : RTy := (RTy.pair I I)
abbrev t100 : RTy := (RTy.pair I I)
abbrev T8 : RTy := (RTy.pair I I)
abbrev t104 : RTy := (RTy.pair I I)
abbrev t154 : RTy := RTy.unit
abbrev t155 : RTy := RTy.unit
instance : GT Try.prog := ⟨fun _ => True, fun _ _ _ h => h⟩
def Rt : Tab := lookT [(1, RTy.fn), (2, I), (3, I), (4, RTy.bool), (5, (RTy.int .u8)), (6, (RTy.int .u8)), (7, t7), (8, t8), (9, RTy.str), (10, RTy.str), (11, RTy.str), (12, (RTy.int .u64)), (13, t13), (14, t14), (21, (RTy.int .i32)), (22, (RTy.list T2)), (23, t23), (24, T3), (25, t25), (26, T4), (27, RTy.fn), (28, I), (29, RTy.fn), (30, RTy.fn), (32, RTy.fn), (33, t33), (34, T5), (35, RTy.fn), (36, (RTy.list T0)), (37, t37), (38, T1), (40, RTy.fn), (42, RTy.fn), (43, RTy.fn), (44, RTy.fn), (45, t45), (46, T2), (47, (RTy.list I)), (49, RTy.fn), (50, RTy.fn), (51, RTy.fn), (54, RTy.fn), (55, RTy.fn), (56, t56), (57, T0), (58, RTy.fn), (59, RTy.fn), (60, RTy.fn), (61, RTy.fn), (62, RTy.fn), (63, RTy.fn), (64, RTy.fn), (65, RTy.fn), (66, RTy.fn), (67, RTy.fn), (68, RTy.fn), (73, RTy.fn), (74, RTy.fn), (76, RTy.fn), (77, RTy.fn), (78, RTy.fn), (79, RTy.fn), (81, RTy.fn), (83, RTy.fn), (84, RTy.fn), (85, RTy.fn), (86, RTy.fn), (87, RTy.fn), (89, RTy.fn), (90, RTy.fn), (91, t91), (92, T6), (93, RTy.fn), (94, RTy.fn), (95, (RTy.list T7)), (97, RTy.fn), (98, RTy.fn), (99, RTy.fn), (100, t100), (101, T8), (102, RTy.fn), (104, t104), (105, T7), (106, RTy.fn), (107, RTy.fn), (108, RTy.fn), (109, RTy.fn), (110, RTy.fn), (111, RTy.fn), (112, RTy.fn), (113, RTy.fn), (114, RTy.fn), (115, RTy.fn), (116, RTy.fn), (117, RTy.fn), (118, (RTy.int .u64)), (119, (RTy.list (RTy.list T7))), (120, RTy.fn), (121, RTy.fn), (122, RTy.fn), (123, I), (125, RTy.fn), (126, RTy.fn), (127, RTy.fn), (128, RTy.fn), (129, RTy.fn), (130, (RTy.int .u32)), (131, RTy.fn), (132, (RTy.int .u64)), (133, RTy.fn), (134, RTy.fn), (135, RTy.fn), (136, RTy.fn), (137, RTy.fn), (138, RTy.fn), (139, (RTy.int .u64)), (140, RTy.fn), (141, RTy.fn), (142, RTy.fn), (144, RTy.fn), (145, RTy.fn), (146, RTy.fn), (148, RTy.fn), (149, RTy.fn), (150, RTy.fn), (153, RTy.unit), (154, t154), (155, t155), (156, RTy.fn), (157, (RTy.int .u8)), (158, (RTy.int .u8)), (159, RTy.fn), (161, (RTy.int .i32)), (162, (RTy.int .i32))]
theorem hm : Try.prog.follows .mixedOrders = true := by kernel_rfl

end
end Go.AM
namespace Go.AM
open Go Go.Proofs Go.IntKind
set_option linter.unusedVariables false
noncomputable section
abbrev R_u31 : Type := Int
def res_u31 (r : R_u31) : AV := .r (.v (.int .i64 r))
def bo_u31 (m_ : List (T0).T) (r : R_u31) : List (Nat × Blk) := []
def args_u31 (m_ : List (T0).T) : List AV := [.r (.ro T0 m_)]
def bin_u31 (m_ : List (T0).T) : List Blk := []
def st_u31_5 (y0 : Int) (y1 : List (T0).T) (y2 : Int) (y3 : Int) : St := ⟨mkS 64 [(3, .r (.v (.int .i64 y0))), (9, .r (.ro T0 y1)), (10, .r (.v (.int .i64 y2))), (11, .r (.v (.int .i64 y3)))], []⟩
def f_u31_5 (k : Nat) : Nat → Int → List (T0).T → Int → Int → Option R_u31
 | 0, _, _, _, _ => none
 | j + 1, y0, y1, y2, y3 =>
 bif (decide (y3 < y2)) then
 if (0 ≤ y3) ∧ (y3 < (↑y1.length : Int)) then
 bif (decide ((y1.getD y3.toNat T0.dflt).2.1 < (1 : Int)) || decide ((y1.getD y3.toNat T0.dflt).2.1 > (17179869184 : Int)) || decide ((y1.getD y3.toNat T0.dflt).1 < (0 : Int)) || decide ((y1.getD y3.toNat T0.dflt).1 ≥ (17179869184 : Int))) then
 some 1
 else
 bif ((y1.getD y3.toNat T0.dflt).2.2 && decide (i64.wrap (i64.wrap ((y1.getD y3.toNat T0.dflt).1 - (y1.getD y3.toNat T0.dflt).2.1) + (1 : Int)) < (0 : Int)) || (! (y1.getD y3.toNat T0.dflt).2.2) && decide (i64.wrap ((y1.getD y3.toNat T0.dflt).1 + (y1.getD y3.toNat T0.dflt).2.1) > (17179869184 : Int))) then
 some 1
 else
 f_u31_5 k j ((i64.wrap (y0 + (y1.getD y3.toNat T0.dflt).2.1))) y1 y2 ((i64.wrap (y3 + 1)))
 else none
 else
 bif (decide (y0 > (17179869184 : Int))) then
 some 21
 else
 some 0
def f_u31 (k : Nat) (m_ : List (T0).T) : Option R_u31 :=
 bif (decide ((↑m_.length : Int) > (256 : Int))) then
 some 8
 else
 f_u31_5 k k 0 m_ ((↑m_.length : Int)) 0
def v_u31 (k : Nat) (m_ : List (T0).T) : R_u31 := (f_u31 k m_).getD 0
def K_u31 (k : Nat) : Calld := ⟨fun g xs => match g with
 | _ => none, fun g xs bs => match g with
 | _ => none⟩
theorem ev_u31 (k : Nat) (m_ : List (T0).T) : ∀ j, (∀ (y0 : Int) (y1 : List (T0).T) (y2 : Int) (y3 : Int) (r : R_u31), f_u31_5 k j y0 y1 y2 y3 = some r → Ev Try.prog Try.f24 0 (placeAt Try.f24 5) (st_u31_5 y0 y1 y2 y3) (res_u31 r) (bo_u31 m_ r))
 | 0 => by
  intros; rename_i h; simp [f_u31_5] at h
 | j + 1 => by
  have ih := ev_u31 k m_ j
  ·intro y0 y1 y2 y3 r h
   rw [f_u31_5] at h
   refine Ev.tree hm (R := Rt) (K := (K_u31 k)) (l := []) (C := [(5, [.autoB [3, 9, 10, 11] false []])]) (E := [.autoB [2] true []]) (n := 1000) (T := .test ((decide (y3 < y2))) (.need [0 ≤ y3, y3 < (↑y1.length : Int)] (.test ((decide ((y1.getD y3.toNat T0.dflt).2.1 < (1 : Int)) || decide ((y1.getD y3.toNat T0.dflt).2.1 > (17179869184 : Int)) || decide ((y1.getD y3.toNat T0.dflt).1 < (0 : Int)) || decide ((y1.getD y3.toNat T0.dflt).1 ≥ (17179869184 : Int)))) (.leaf (res_u31 1) (bo_u31 m_ 1)) (.test (((y1.getD y3.toNat T0.dflt).2.2 && decide (i64.wrap (i64.wrap ((y1.getD y3.toNat T0.dflt).1 - (y1.getD y3.toNat T0.dflt).2.1) + (1 : Int)) < (0 : Int)) || (! (y1.getD y3.toNat T0.dflt).2.2) && decide (i64.wrap ((y1.getD y3.toNat T0.dflt).1 + (y1.getD y3.toNat T0.dflt).2.1) > (17179869184 : Int)))) (.leaf (res_u31 1) (bo_u31 m_ 1)) (.cut 5 (placeAt Try.f24 5) (st_u31_5 ((i64.wrap (y0 + (y1.getD y3.toNat T0.dflt).2.1))) y1 y2 ((i64.wrap (y3 + 1)))))))) (.test ((decide (y0 > (17179869184 : Int)))) (.leaf (res_u31 21) (bo_u31 m_ 21)) (.leaf (res_u31 0) (bo_u31 m_ 0)))) (by kernel_rfl) ?_
   refine ⟨fun c => ?_, fun c => ?_⟩
   ·rw [cond_t (show ((decide (y3 < y2))) = true from c)] at h
    by_cases q : (0 ≤ y3) ∧ (y3 < (↑y1.length : Int))
    ·rw [if_pos q] at h
     refine ⟨(conjC q.1 (conjC q.2 conj0)), ?_⟩
     refine ⟨fun c => ?_, fun c => ?_⟩
     ·rw [cond_t (show ((decide ((y1.getD y3.toNat T0.dflt).2.1 < (1 : Int)) || decide ((y1.getD y3.toNat T0.dflt).2.1 > (17179869184 : Int)) || decide ((y1.getD y3.toNat T0.dflt).1 < (0 : Int)) || decide ((y1.getD y3.toNat T0.dflt).1 ≥ (17179869184 : Int)))) = true from c)] at h
      cases h; exact ⟨rfl, rfl⟩
     ·rw [cond_f (show ((decide ((y1.getD y3.toNat T0.dflt).2.1 < (1 : Int)) || decide ((y1.getD y3.toNat T0.dflt).2.1 > (17179869184 : Int)) || decide ((y1.getD y3.toNat T0.dflt).1 < (0 : Int)) || decide ((y1.getD y3.toNat T0.dflt).1 ≥ (17179869184 : Int)))) = false from c)] at h
      refine ⟨fun c => ?_, fun c => ?_⟩
      ·rw [cond_t (show (((y1.getD y3.toNat T0.dflt).2.2 && decide (i64.wrap (i64.wrap ((y1.getD y3.toNat T0.dflt).1 - (y1.getD y3.toNat T0.dflt).2.1) + (1 : Int)) < (0 : Int)) || (! (y1.getD y3.toNat T0.dflt).2.2) && decide (i64.wrap ((y1.getD y3.toNat T0.dflt).1 + (y1.getD y3.toNat T0.dflt).2.1) > (17179869184 : Int)))) = true from c)] at h
       cases h; exact ⟨rfl, rfl⟩
      ·rw [cond_f (show (((y1.getD y3.toNat T0.dflt).2.2 && decide (i64.wrap (i64.wrap ((y1.getD y3.toNat T0.dflt).1 - (y1.getD y3.toNat T0.dflt).2.1) + (1 : Int)) < (0 : Int)) || (! (y1.getD y3.toNat T0.dflt).2.2) && decide (i64.wrap ((y1.getD y3.toNat T0.dflt).1 + (y1.getD y3.toNat T0.dflt).2.1) > (17179869184 : Int)))) = false from c)] at h
       exact ih ((i64.wrap (y0 + (y1.getD y3.toNat T0.dflt).2.1))) y1 y2 ((i64.wrap (y3 + 1))) _ h
    ·rw [if_neg q] at h; cases h
   ·rw [cond_f (show ((decide (y3 < y2))) = false from c)] at h
    refine ⟨fun c => ?_, fun c => ?_⟩
    ·rw [cond_t (show ((decide (y0 > (17179869184 : Int)))) = true from c)] at h
     cases h; exact ⟨rfl, rfl⟩
    ·rw [cond_f (show ((decide (y0 > (17179869184 : Int)))) = false from c)] at h
     cases h; exact ⟨rfl, rfl⟩
theorem of_u31 (k : Nat) (m_ : List (T0).T) (r : R_u31) (h : f_u31 k m_ = some r) : CC Try.prog 24 (args_u31 m_) (bin_u31 m_) (res_u31 r) (bo_u31 m_ r) := by
 refine CC.of (fn := Try.f24) (by kernel_rfl) (by kernel_rfl) (by kernel_rfl) (by kernel_rfl) ?_
 unfold f_u31 at h
 refine Ev.tree hm (R := Rt) (K := (K_u31 k)) (l := []) (C := [(5, [.autoB [3, 9, 10, 11] false []])]) (E := [.autoB [2] true []]) (n := 1000) (T := .test ((decide ((↑m_.length : Int) > (256 : Int)))) (.leaf (res_u31 8) (bo_u31 m_ 8)) (.cut 5 (placeAt Try.f24 5) (st_u31_5 0 m_ ((↑m_.length : Int)) 0))) (by kernel_rfl) ?_
 refine ⟨fun c => ?_, fun c => ?_⟩
 ·rw [cond_t (show ((decide ((↑m_.length : Int) > (256 : Int)))) = true from c)] at h
  cases h; exact ⟨rfl, rfl⟩
 ·rw [cond_f (show ((decide ((↑m_.length : Int) > (256 : Int)))) = false from c)] at h
  exact (ev_u31 k m_ k) 0 m_ ((↑m_.length : Int)) 0 _ h
theorem cc_u31 (k : Nat) (m_ : List (T0).T) (h : (f_u31 k m_).isSome = true) : CC Try.prog 24 (args_u31 m_) (bin_u31 m_) (res_u31 (v_u31 k m_)) (bo_u31 m_ (v_u31 k m_)) := by
 cases e : f_u31 k m_ with
 | none => rw [e] at h; cases h
 | some r => rw [show v_u31 k m_ = r by simp [v_u31, e]]; exact of_u31 k m_ r e

end
end Go.AM
namespace Go.AM
open Go Go.Proofs Go.IntKind
set_option linter.unusedVariables false
noncomputable section
abbrev R_u44 : Type := Int
def res_u44 (r : R_u44) : AV := .r (.v (.int .i64 r))
def bo_u44 (m_ : List (T0).T) (r : R_u44) : List (Nat × Blk) := []
def args_u44 (m_ : List (T0).T) : List AV := [.r (.ro T0 m_)]
def bin_u44 (m_ : List (T0).T) : List Blk := []
def st_u44_3 (y0 : Int) (y1 : List (T0).T) (y2 : Int) (y3 : Int) : St := ⟨mkS 18 [(3, .r (.v (.int .i64 y0))), (6, .r (.ro T0 y1)), (7, .r (.v (.int .i64 y2))), (8, .r (.v (.int .i64 y3)))], []⟩
def f_u44_3 (k : Nat) : Nat → Int → List (T0).T → Int → Int → Option R_u44
 | 0, _, _, _, _ => none
 | j + 1, y0, y1, y2, y3 =>
 bif (decide (y3 < y2)) then
 if (0 ≤ y3) ∧ (y3 < (↑y1.length : Int)) then
 f_u44_3 k j ((i64.wrap (y0 + (y1.getD y3.toNat T0.dflt).2.1))) y1 y2 ((i64.wrap (y3 + 1)))
 else none
 else
 some y0
def f_u44 (k : Nat) (m_ : List (T0).T) : Option R_u44 :=
 f_u44_3 k k 0 m_ ((↑m_.length : Int)) 0
def v_u44 (k : Nat) (m_ : List (T0).T) : R_u44 := (f_u44 k m_).getD 0
def K_u44 (k : Nat) : Calld := ⟨fun g xs => match g with
 | _ => none, fun g xs bs => match g with
 | _ => none⟩
theorem ev_u44 (k : Nat) (m_ : List (T0).T) : ∀ j, (∀ (y0 : Int) (y1 : List (T0).T) (y2 : Int) (y3 : Int) (r : R_u44), f_u44_3 k j y0 y1 y2 y3 = some r → Ev Try.prog Try.f25 0 (placeAt Try.f25 3) (st_u44_3 y0 y1 y2 y3) (res_u44 r) (bo_u44 m_ r))
 | 0 => by
  intros; rename_i h; simp [f_u44_3] at h
 | j + 1 => by
  have ih := ev_u44 k m_ j
  ·intro y0 y1 y2 y3 r h
   rw [f_u44_3] at h
   refine Ev.tree hm (R := Rt) (K := (K_u44 k)) (l := []) (C := [(3, [.autoB [3, 6, 7, 8] false []])]) (E := [.autoB [2] true []]) (n := 1000) (T := .test ((decide (y3 < y2))) (.need [0 ≤ y3, y3 < (↑y1.length : Int)] (.cut 3 (placeAt Try.f25 3) (st_u44_3 ((i64.wrap (y0 + (y1.getD y3.toNat T0.dflt).2.1))) y1 y2 ((i64.wrap (y3 + 1)))))) (.leaf (res_u44 y0) (bo_u44 m_ y0))) (by kernel_rfl) ?_
   refine ⟨fun c => ?_, fun c => ?_⟩
   ·rw [cond_t (show ((decide (y3 < y2))) = true from c)] at h
    by_cases q : (0 ≤ y3) ∧ (y3 < (↑y1.length : Int))
    ·rw [if_pos q] at h
     refine ⟨(conjC q.1 (conjC q.2 conj0)), ?_⟩
     exact ih ((i64.wrap (y0 + (y1.getD y3.toNat T0.dflt).2.1))) y1 y2 ((i64.wrap (y3 + 1))) _ h
    ·rw [if_neg q] at h; cases h
   ·rw [cond_f (show ((decide (y3 < y2))) = false from c)] at h
    cases h; exact ⟨rfl, rfl⟩
theorem of_u44 (k : Nat) (m_ : List (T0).T) (r : R_u44) (h : f_u44 k m_ = some r) : CC Try.prog 25 (args_u44 m_) (bin_u44 m_) (res_u44 r) (bo_u44 m_ r) := by
 refine CC.of (fn := Try.f25) (by kernel_rfl) (by kernel_rfl) (by kernel_rfl) (by kernel_rfl) ?_
 unfold f_u44 at h
 refine Ev.tree hm (R := Rt) (K := (K_u44 k)) (l := []) (C := [(3, [.autoB [3, 6, 7, 8] false []])]) (E := [.autoB [2] true []]) (n := 1000) (T := .cut 3 (placeAt Try.f25 3) (st_u44_3 0 m_ ((↑m_.length : Int)) 0)) (by kernel_rfl) ?_
 exact (ev_u44 k m_ k) 0 m_ ((↑m_.length : Int)) 0 _ h
theorem cc_u44 (k : Nat) (m_ : List (T0).T) (h : (f_u44 k m_).isSome = true) : CC Try.prog 25 (args_u44 m_) (bin_u44 m_) (res_u44 (v_u44 k m_)) (bo_u44 m_ (v_u44 k m_)) := by
 cases e : f_u44 k m_ with
 | none => rw [e] at h; cases h
 | some r => rw [show v_u44 k m_ = r by simp [v_u44, e]]; exact of_u44 k m_ r e

end
end Go.AM
namespace Go.AM
open Go Go.Proofs Go.IntKind
set_option linter.unusedVariables false
noncomputable section
abbrev R_u42 : Type := Int
def res_u42 (r : R_u42) : AV := .r (.v (.int .i64 r))
def bo_u42 (r_ : T0.T) (x_ : Int) (r : R_u42) : List (Nat × Blk) := []
def args_u42 (r_ : T0.T) (x_ : Int) : List AV := [.agg (rvs (enc T0 r_)), .r (.v (.int .i64 x_))]
def bin_u42 (r_ : T0.T) (x_ : Int) : List Blk := []
def f_u42 (k : Nat) (r_ : T0.T) (x_ : Int) : Option R_u42 :=
 bif r_.2.2 then
 some (i64.wrap (r_.1 - x_))
 else
 some (i64.wrap (r_.1 + x_))
def v_u42 (k : Nat) (r_ : T0.T) (x_ : Int) : R_u42 := (f_u42 k r_ x_).getD 0
def K_u42 (k : Nat) : Calld := ⟨fun g xs => match g with
 | _ => none, fun g xs bs => match g with
 | _ => none⟩
theorem of_u42 (k : Nat) (r_ : T0.T) (x_ : Int) (r : R_u42) (h : f_u42 k r_ x_ = some r) : CC Try.prog 44 (args_u42 r_ x_) (bin_u42 r_ x_) (res_u42 r) (bo_u42 r_ x_ r) := by
 refine CC.of (fn := Try.f44) (by kernel_rfl) (by kernel_rfl) (by kernel_rfl) (by kernel_rfl) ?_
 unfold f_u42 at h
 refine Ev.tree hm (R := Rt) (K := (K_u42 k)) (l := []) (C := []) (E := [.autoB [4] true []]) (n := 1000) (T := .test (r_.2.2) (.leaf (res_u42 (i64.wrap (r_.1 - x_))) (bo_u42 r_ x_ (i64.wrap (r_.1 - x_)))) (.leaf (res_u42 (i64.wrap (r_.1 + x_))) (bo_u42 r_ x_ (i64.wrap (r_.1 + x_))))) (by kernel_rfl) ?_
 refine ⟨fun c => ?_, fun c => ?_⟩
 ·rw [cond_t (show r_.2.2 = true from c)] at h
  cases h; exact ⟨rfl, rfl⟩
 ·rw [cond_f (show r_.2.2 = false from c)] at h
  cases h; exact ⟨rfl, rfl⟩
theorem cc_u42 (k : Nat) (r_ : T0.T) (x_ : Int) (h : (f_u42 k r_ x_).isSome = true) : CC Try.prog 44 (args_u42 r_ x_) (bin_u42 r_ x_) (res_u42 (v_u42 k r_ x_)) (bo_u42 r_ x_ (v_u42 k r_ x_)) := by
 cases e : f_u42 k r_ x_ with
 | none => rw [e] at h; cases h
 | some r => rw [show v_u42 k r_ x_ = r by simp [v_u42, e]]; exact of_u42 k r_ x_ r e

end
end Go.AM
namespace Go.AM
open Go Go.Proofs Go.IntKind
set_option linter.unusedVariables false
noncomputable section
abbrev R_u45 : Type := T0.T
def res_u45 (r : R_u45) : AV := .agg (rvs (enc T0 r))
def bo_u45 (r_ : T0.T) (x_ : Int) (n_ : Int) (r : R_u45) : List (Nat × Blk) := []
def args_u45 (r_ : T0.T) (x_ : Int) (n_ : Int) : List AV := [.agg (rvs (enc T0 r_)), .r (.v (.int .i64 x_)), .r (.v (.int .i64 n_))]
def bin_u45 (r_ : T0.T) (x_ : Int) (n_ : Int) : List Blk := []
def f_u45 (k : Nat) (r_ : T0.T) (x_ : Int) (n_ : Int) : Option R_u45 :=
 if ((f_u42 k r_ x_).isSome = true) then
 some ((v_u42 k r_ x_, (n_, r_.2.2 && decide (n_ > 1))))
 else none
def v_u45 (k : Nat) (r_ : T0.T) (x_ : Int) (n_ : Int) : R_u45 := (f_u45 k r_ x_ n_).getD (T0).dflt
def K_u45 (k : Nat) : Calld := ⟨fun g xs => match g with
 | 44 => match xs with
  | [_, _] => some [false, false]
  | _ => none
 | _ => none, fun g xs bs => match g with
 | 44 => match xs, bs with
  | [.agg qr_, .r (.v (.int .i64 x_))], [] => (decS [] T0 qr_).bind fun r_ => some (.one (res_u42 (v_u42 k r_ x_), bo_u42 r_ x_ (v_u42 k r_ x_)))
  | _, _ => none
 | _ => none⟩
theorem of_u45 (k : Nat) (r_ : T0.T) (x_ : Int) (n_ : Int) (r : R_u45) (h : f_u45 k r_ x_ n_ = some r) : CC Try.prog 38 (args_u45 r_ x_ n_) (bin_u45 r_ x_ n_) (res_u45 r) (bo_u45 r_ x_ n_ r) := by
 refine CC.of (fn := Try.f38) (by kernel_rfl) (by kernel_rfl) (by kernel_rfl) (by kernel_rfl) ?_
 unfold f_u45 at h
 refine Ev.tree hm (R := Rt) (K := (K_u45 k)) (l := []) (C := []) (E := [.autoB [6] true []]) (n := 1000) (T := .need [CC Try.prog 44 (args_u42 r_ x_) (bin_u42 r_ x_) (res_u42 (v_u42 k r_ x_)) (bo_u42 r_ x_ (v_u42 k r_ x_))] (.leaf (res_u45 ((v_u42 k r_ x_, (n_, r_.2.2 && decide (n_ > 1))))) (bo_u45 r_ x_ n_ ((v_u42 k r_ x_, (n_, r_.2.2 && decide (n_ > 1))))))) (by kernel_rfl) ?_
 by_cases q : ((f_u42 k r_ x_).isSome = true)
 ·rw [if_pos q] at h
  refine ⟨(conjC (cc_u42 k r_ x_ q) conj0), ?_⟩
  cases h; exact ⟨rfl, rfl⟩
 ·rw [if_neg q] at h; cases h
theorem cc_u45 (k : Nat) (r_ : T0.T) (x_ : Int) (n_ : Int) (h : (f_u45 k r_ x_ n_).isSome = true) : CC Try.prog 38 (args_u45 r_ x_ n_) (bin_u45 r_ x_ n_) (res_u45 (v_u45 k r_ x_ n_)) (bo_u45 r_ x_ n_ (v_u45 k r_ x_ n_)) := by
 cases e : f_u45 k r_ x_ n_ with
 | none => rw [e] at h; cases h
 | some r => rw [show v_u45 k r_ x_ n_ = r by simp [v_u45, e]]; exact of_u45 k r_ x_ n_ r e

end
end Go.AM
namespace Go.AM
open Go Go.Proofs Go.IntKind
set_option linter.unusedVariables false
noncomputable section
abbrev R_u37 : Type := List (T0).T
def res_u37 (r : R_u37) : AV := .tup []
def bo_u37 (b_0 : List (T0).T) (r_ : T0.T) (r : R_u37) : List (Nat × Blk) := [(0, .var 92 [.own 1 1]), (1, .row 57 T0 r)]
def args_u37 (b_0 : List (T0).T) (r_ : T0.T) : List AV := [.ptr 0 0 0, .agg (rvs (enc T0 r_))]
def bin_u37 (b_0 : List (T0).T) (r_ : T0.T) : List Blk := [.var 92 [.own 1 0], .row 57 T0 b_0]
def w_u37 (g : List (T0).T → T0.T → Option R_u37) (b_0 : List (T0).T) (r_ : T0.T) : R_u37 := (g b_0 r_).getD []
def f_u37 : Nat → List (T0).T → T0.T → Option R_u37
 | 0, _, _ => none
 | k + 1, b_0, r_ =>
 bif (decide (r_.2.1 < (1 : Int))) then
 some b_0
 else
 bif ((↑b_0.length : Int) == (0 : Int)) then
 if ((f_u45 k r_ 0 r_.2.1).isSome = true) ∧ ((b_0.length + [v_u45 k r_ (0 : Int) r_.2.1].length) * (24 : Nat) ≤ (140737488355328 : Nat)) then
 some (b_0 ++ [v_u45 k r_ 0 r_.2.1])
 else none
 else
 if ((0 : Int) ≤ i64.wrap ((↑b_0.length : Int) - (1 : Int))) ∧ (i64.wrap ((↑b_0.length : Int) - (1 : Int)) < (↑b_0.length : Int)) then
 if ((f_u42 k (b_0.getD (i64.wrap ((↑b_0.length : Int) - 1)).toNat T0.dflt) (i64.wrap ((b_0.getD (i64.wrap ((↑b_0.length : Int) - 1)).toNat T0.dflt).2.1 - 1))).isSome = true) then
 bif (i64.wrap (r_.1 - v_u42 k (b_0.getD (i64.wrap ((↑b_0.length : Int) - (1 : Int))).toNat T0.dflt) (i64.wrap ((b_0.getD (i64.wrap ((↑b_0.length : Int) - (1 : Int))).toNat T0.dflt).2.1 - (1 : Int)))) != (1 : Int) && i64.wrap (r_.1 - v_u42 k (b_0.getD (i64.wrap ((↑b_0.length : Int) - (1 : Int))).toNat T0.dflt) (i64.wrap ((b_0.getD (i64.wrap ((↑b_0.length : Int) - (1 : Int))).toNat T0.dflt).2.1 - (1 : Int)))) != (-1 : Int) || decide ((b_0.getD (i64.wrap ((↑b_0.length : Int) - (1 : Int))).toNat T0.dflt).2.1 > (1 : Int)) && (! (i64.wrap (r_.1 - v_u42 k (b_0.getD (i64.wrap ((↑b_0.length : Int) - (1 : Int))).toNat T0.dflt) (i64.wrap ((b_0.getD (i64.wrap ((↑b_0.length : Int) - (1 : Int))).toNat T0.dflt).2.1 - (1 : Int)))) == (-1 : Int)) == (b_0.getD (i64.wrap ((↑b_0.length : Int) - (1 : Int))).toNat T0.dflt).2.2)) then
 if ((f_u45 k r_ 0 r_.2.1).isSome = true) ∧ ((b_0.length + [v_u45 k r_ (0 : Int) r_.2.1].length) * (24 : Nat) ≤ (140737488355328 : Nat)) then
 some (b_0 ++ [v_u45 k r_ 0 r_.2.1])
 else none
 else
 bif (decide (r_.2.1 > (1 : Int)) && r_.2.2 == (i64.wrap (r_.1 - v_u42 k (b_0.getD (i64.wrap ((↑b_0.length : Int) - (1 : Int))).toNat T0.dflt) (i64.wrap ((b_0.getD (i64.wrap ((↑b_0.length : Int) - (1 : Int))).toNat T0.dflt).2.1 - (1 : Int)))) == (-1 : Int))) then
 if ((0 : Int) ≤ i64.wrap ((↑b_0.length : Int) - (1 : Int))) ∧ (i64.wrap ((↑b_0.length : Int) - (1 : Int)) < (↑b_0.length : Int)) then
 if ((f_u45 k r_ r_.2.1 (i64.wrap (r_.2.1 - r_.2.1))).isSome = true) ∧ ((f_u37 k (b_0.set (i64.wrap ((↑b_0.length : Int) - 1)).toNat ((b_0.getD (i64.wrap ((↑b_0.length : Int) - 1)).toNat T0.dflt).1, i64.wrap ((b_0.getD (i64.wrap ((↑b_0.length : Int) - 1)).toNat T0.dflt).2.1 + r_.2.1), i64.wrap (r_.1 - v_u42 k (b_0.getD (i64.wrap ((↑b_0.length : Int) - 1)).toNat T0.dflt) (i64.wrap ((b_0.getD (i64.wrap ((↑b_0.length : Int) - 1)).toNat T0.dflt).2.1 - 1))) == (-1))) (v_u45 k r_ r_.2.1 (i64.wrap (r_.2.1 - r_.2.1)))).isSome = true) then
 some (w_u37 (f_u37 k) (b_0.set (i64.wrap ((↑b_0.length : Int) - 1)).toNat ((b_0.getD (i64.wrap ((↑b_0.length : Int) - 1)).toNat T0.dflt).1, i64.wrap ((b_0.getD (i64.wrap ((↑b_0.length : Int) - 1)).toNat T0.dflt).2.1 + r_.2.1), i64.wrap (r_.1 - v_u42 k (b_0.getD (i64.wrap ((↑b_0.length : Int) - 1)).toNat T0.dflt) (i64.wrap ((b_0.getD (i64.wrap ((↑b_0.length : Int) - 1)).toNat T0.dflt).2.1 - 1))) == (-1))) (v_u45 k r_ r_.2.1 (i64.wrap (r_.2.1 - r_.2.1))))
 else none
 else none
 else
 if ((0 : Int) ≤ i64.wrap ((↑b_0.length : Int) - (1 : Int))) ∧ (i64.wrap ((↑b_0.length : Int) - (1 : Int)) < (↑b_0.length : Int)) then
 if ((f_u45 k r_ 1 (i64.wrap (r_.2.1 - 1))).isSome = true) ∧ ((f_u37 k (b_0.set (i64.wrap ((↑b_0.length : Int) - 1)).toNat ((b_0.getD (i64.wrap ((↑b_0.length : Int) - 1)).toNat T0.dflt).1, i64.wrap ((b_0.getD (i64.wrap ((↑b_0.length : Int) - 1)).toNat T0.dflt).2.1 + 1), i64.wrap (r_.1 - v_u42 k (b_0.getD (i64.wrap ((↑b_0.length : Int) - 1)).toNat T0.dflt) (i64.wrap ((b_0.getD (i64.wrap ((↑b_0.length : Int) - 1)).toNat T0.dflt).2.1 - 1))) == (-1))) (v_u45 k r_ 1 (i64.wrap (r_.2.1 - 1)))).isSome = true) then
 some (w_u37 (f_u37 k) (b_0.set (i64.wrap ((↑b_0.length : Int) - 1)).toNat ((b_0.getD (i64.wrap ((↑b_0.length : Int) - 1)).toNat T0.dflt).1, i64.wrap ((b_0.getD (i64.wrap ((↑b_0.length : Int) - 1)).toNat T0.dflt).2.1 + 1), i64.wrap (r_.1 - v_u42 k (b_0.getD (i64.wrap ((↑b_0.length : Int) - 1)).toNat T0.dflt) (i64.wrap ((b_0.getD (i64.wrap ((↑b_0.length : Int) - 1)).toNat T0.dflt).2.1 - 1))) == (-1))) (v_u45 k r_ 1 (i64.wrap (r_.2.1 - 1))))
 else none
 else none
 else none
 else none
def v_u37 (k : Nat) (b_0 : List (T0).T) (r_ : T0.T) : R_u37 := (f_u37 k b_0 r_).getD []
def K_u37 (k : Nat) : Calld := ⟨fun g xs => match g with
 | 44 => match xs with
  | [_, _] => some [false, false]
  | _ => none
 | 38 => match xs with
  | [_, _, _] => some [false, false, false]
  | _ => none
 | 45 => match xs with
  | [.ptr _ _ _, _] => some [true, false]
  | _ => none
 | _ => none, fun g xs bs => match g with
 | 44 => match xs, bs with
  | [.agg qr_, .r (.v (.int .i64 x_))], [] => (decS [] T0 qr_).bind fun r_ => some (.one (res_u42 (v_u42 k r_ x_), bo_u42 r_ x_ (v_u42 k r_ x_)))
  | _, _ => none
 | 38 => match xs, bs with
  | [.agg qr_, .r (.v (.int .i64 x_)), .r (.v (.int .i64 n_))], [] => (decS [] T0 qr_).bind fun r_ => some (.one (res_u45 (v_u45 k r_ x_ n_), bo_u45 r_ x_ n_ (v_u45 k r_ x_ n_)))
  | _, _ => none
 | 45 => match xs, bs with
  | [.ptr 0 0 0, .agg qr_], [.var 92 [.own 1 0], .row 57 tb_0_ qb_0] => (decS [] T0 qr_).bind fun r_ => (castL tb_0_ T0 qb_0).bind fun b_0 => some (.one (res_u37 (v_u37 k b_0 r_), bo_u37 b_0 r_ (v_u37 k b_0 r_)))
  | _, _ => none
 | _ => none⟩
theorem of_u37 : ∀ (k : Nat) (b_0 : List (T0).T) (r_ : T0.T) (r : R_u37), f_u37 k b_0 r_ = some r → CC Try.prog 45 (args_u37 b_0 r_) (bin_u37 b_0 r_) (res_u37 r) (bo_u37 b_0 r_ r)
 | 0, b_0, r_, r, h => by simp [f_u37] at h
 | k + 1, b_0, r_, r, h => by
  have ih : ∀ (b_0 : List (T0).T) (r_ : T0.T), (f_u37 k b_0 r_).isSome = true → CC Try.prog 45 (args_u37 b_0 r_) (bin_u37 b_0 r_) (res_u37 (v_u37 k b_0 r_)) (bo_u37 b_0 r_ (v_u37 k b_0 r_)) := fun b_0 r_ h => by
   cases e : f_u37 k b_0 r_ with
   | none => rw [e] at h; cases h
   | some r => rw [show v_u37 k b_0 r_ = r by simp [v_u37, e]]; exact of_u37 k b_0 r_ r e
  refine CC.of (fn := Try.f45) (by kernel_rfl) (by kernel_rfl) (by kernel_rfl) (by kernel_rfl) ?_
  rw [f_u37] at h
  refine Ev.tree hm (R := Rt) (K := (K_u37 k)) (l := []) (C := []) (E := [.autoB [] true [1]]) (n := 1000) (T := .test ((decide (r_.2.1 < (1 : Int)))) (.leaf (res_u37 b_0) (bo_u37 b_0 r_ b_0)) (.test (((↑b_0.length : Int) == (0 : Int))) (.need [CC Try.prog 38 (args_u45 r_ 0 r_.2.1) (bin_u45 r_ 0 r_.2.1) (res_u45 (v_u45 k r_ 0 r_.2.1)) (bo_u45 r_ 0 r_.2.1 (v_u45 k r_ 0 r_.2.1)), (b_0.length + [v_u45 k r_ (0 : Int) r_.2.1].length) * (24 : Nat) ≤ (140737488355328 : Nat)] (.leaf (res_u37 (b_0 ++ [v_u45 k r_ 0 r_.2.1])) (bo_u37 b_0 r_ (b_0 ++ [v_u45 k r_ 0 r_.2.1])))) (.need [(0 : Int) ≤ i64.wrap ((↑b_0.length : Int) - (1 : Int)), i64.wrap ((↑b_0.length : Int) - (1 : Int)) < (↑b_0.length : Int)] (.need [CC Try.prog 44 (args_u42 (b_0.getD (i64.wrap ((↑b_0.length : Int) - 1)).toNat T0.dflt) (i64.wrap ((b_0.getD (i64.wrap ((↑b_0.length : Int) - 1)).toNat T0.dflt).2.1 - 1))) (bin_u42 (b_0.getD (i64.wrap ((↑b_0.length : Int) - 1)).toNat T0.dflt) (i64.wrap ((b_0.getD (i64.wrap ((↑b_0.length : Int) - 1)).toNat T0.dflt).2.1 - 1))) (res_u42 (v_u42 k (b_0.getD (i64.wrap ((↑b_0.length : Int) - 1)).toNat T0.dflt) (i64.wrap ((b_0.getD (i64.wrap ((↑b_0.length : Int) - 1)).toNat T0.dflt).2.1 - 1)))) (bo_u42 (b_0.getD (i64.wrap ((↑b_0.length : Int) - 1)).toNat T0.dflt) (i64.wrap ((b_0.getD (i64.wrap ((↑b_0.length : Int) - 1)).toNat T0.dflt).2.1 - 1)) (v_u42 k (b_0.getD (i64.wrap ((↑b_0.length : Int) - 1)).toNat T0.dflt) (i64.wrap ((b_0.getD (i64.wrap ((↑b_0.length : Int) - 1)).toNat T0.dflt).2.1 - 1))))] (.test ((i64.wrap (r_.1 - v_u42 k (b_0.getD (i64.wrap ((↑b_0.length : Int) - (1 : Int))).toNat T0.dflt) (i64.wrap ((b_0.getD (i64.wrap ((↑b_0.length : Int) - (1 : Int))).toNat T0.dflt).2.1 - (1 : Int)))) != (1 : Int) && i64.wrap (r_.1 - v_u42 k (b_0.getD (i64.wrap ((↑b_0.length : Int) - (1 : Int))).toNat T0.dflt) (i64.wrap ((b_0.getD (i64.wrap ((↑b_0.length : Int) - (1 : Int))).toNat T0.dflt).2.1 - (1 : Int)))) != (-1 : Int) || decide ((b_0.getD (i64.wrap ((↑b_0.length : Int) - (1 : Int))).toNat T0.dflt).2.1 > (1 : Int)) && (! (i64.wrap (r_.1 - v_u42 k (b_0.getD (i64.wrap ((↑b_0.length : Int) - (1 : Int))).toNat T0.dflt) (i64.wrap ((b_0.getD (i64.wrap ((↑b_0.length : Int) - (1 : Int))).toNat T0.dflt).2.1 - (1 : Int)))) == (-1 : Int)) == (b_0.getD (i64.wrap ((↑b_0.length : Int) - (1 : Int))).toNat T0.dflt).2.2))) (.need [CC Try.prog 38 (args_u45 r_ 0 r_.2.1) (bin_u45 r_ 0 r_.2.1) (res_u45 (v_u45 k r_ 0 r_.2.1)) (bo_u45 r_ 0 r_.2.1 (v_u45 k r_ 0 r_.2.1)), (b_0.length + [v_u45 k r_ (0 : Int) r_.2.1].length) * (24 : Nat) ≤ (140737488355328 : Nat)] (.leaf (res_u37 (b_0 ++ [v_u45 k r_ 0 r_.2.1])) (bo_u37 b_0 r_ (b_0 ++ [v_u45 k r_ 0 r_.2.1])))) (.test ((decide (r_.2.1 > (1 : Int)) && r_.2.2 == (i64.wrap (r_.1 - v_u42 k (b_0.getD (i64.wrap ((↑b_0.length : Int) - (1 : Int))).toNat T0.dflt) (i64.wrap ((b_0.getD (i64.wrap ((↑b_0.length : Int) - (1 : Int))).toNat T0.dflt).2.1 - (1 : Int)))) == (-1 : Int)))) (.need [(0 : Int) ≤ i64.wrap ((↑b_0.length : Int) - (1 : Int)), i64.wrap ((↑b_0.length : Int) - (1 : Int)) < (↑b_0.length : Int)] (.need [CC Try.prog 38 (args_u45 r_ r_.2.1 (i64.wrap (r_.2.1 - r_.2.1))) (bin_u45 r_ r_.2.1 (i64.wrap (r_.2.1 - r_.2.1))) (res_u45 (v_u45 k r_ r_.2.1 (i64.wrap (r_.2.1 - r_.2.1)))) (bo_u45 r_ r_.2.1 (i64.wrap (r_.2.1 - r_.2.1)) (v_u45 k r_ r_.2.1 (i64.wrap (r_.2.1 - r_.2.1)))), CC Try.prog 45 (args_u37 (b_0.set (i64.wrap ((↑b_0.length : Int) - 1)).toNat ((b_0.getD (i64.wrap ((↑b_0.length : Int) - 1)).toNat T0.dflt).1, i64.wrap ((b_0.getD (i64.wrap ((↑b_0.length : Int) - 1)).toNat T0.dflt).2.1 + r_.2.1), i64.wrap (r_.1 - v_u42 k (b_0.getD (i64.wrap ((↑b_0.length : Int) - 1)).toNat T0.dflt) (i64.wrap ((b_0.getD (i64.wrap ((↑b_0.length : Int) - 1)).toNat T0.dflt).2.1 - 1))) == (-1))) (v_u45 k r_ r_.2.1 (i64.wrap (r_.2.1 - r_.2.1)))) (bin_u37 (b_0.set (i64.wrap ((↑b_0.length : Int) - 1)).toNat ((b_0.getD (i64.wrap ((↑b_0.length : Int) - 1)).toNat T0.dflt).1, i64.wrap ((b_0.getD (i64.wrap ((↑b_0.length : Int) - 1)).toNat T0.dflt).2.1 + r_.2.1), i64.wrap (r_.1 - v_u42 k (b_0.getD (i64.wrap ((↑b_0.length : Int) - 1)).toNat T0.dflt) (i64.wrap ((b_0.getD (i64.wrap ((↑b_0.length : Int) - 1)).toNat T0.dflt).2.1 - 1))) == (-1))) (v_u45 k r_ r_.2.1 (i64.wrap (r_.2.1 - r_.2.1)))) (res_u37 (v_u37 k (b_0.set (i64.wrap ((↑b_0.length : Int) - 1)).toNat ((b_0.getD (i64.wrap ((↑b_0.length : Int) - 1)).toNat T0.dflt).1, i64.wrap ((b_0.getD (i64.wrap ((↑b_0.length : Int) - 1)).toNat T0.dflt).2.1 + r_.2.1), i64.wrap (r_.1 - v_u42 k (b_0.getD (i64.wrap ((↑b_0.length : Int) - 1)).toNat T0.dflt) (i64.wrap ((b_0.getD (i64.wrap ((↑b_0.length : Int) - 1)).toNat T0.dflt).2.1 - 1))) == (-1))) (v_u45 k r_ r_.2.1 (i64.wrap (r_.2.1 - r_.2.1))))) (bo_u37 (b_0.set (i64.wrap ((↑b_0.length : Int) - 1)).toNat ((b_0.getD (i64.wrap ((↑b_0.length : Int) - 1)).toNat T0.dflt).1, i64.wrap ((b_0.getD (i64.wrap ((↑b_0.length : Int) - 1)).toNat T0.dflt).2.1 + r_.2.1), i64.wrap (r_.1 - v_u42 k (b_0.getD (i64.wrap ((↑b_0.length : Int) - 1)).toNat T0.dflt) (i64.wrap ((b_0.getD (i64.wrap ((↑b_0.length : Int) - 1)).toNat T0.dflt).2.1 - 1))) == (-1))) (v_u45 k r_ r_.2.1 (i64.wrap (r_.2.1 - r_.2.1))) (v_u37 k (b_0.set (i64.wrap ((↑b_0.length : Int) - 1)).toNat ((b_0.getD (i64.wrap ((↑b_0.length : Int) - 1)).toNat T0.dflt).1, i64.wrap ((b_0.getD (i64.wrap ((↑b_0.length : Int) - 1)).toNat T0.dflt).2.1 + r_.2.1), i64.wrap (r_.1 - v_u42 k (b_0.getD (i64.wrap ((↑b_0.length : Int) - 1)).toNat T0.dflt) (i64.wrap ((b_0.getD (i64.wrap ((↑b_0.length : Int) - 1)).toNat T0.dflt).2.1 - 1))) == (-1))) (v_u45 k r_ r_.2.1 (i64.wrap (r_.2.1 - r_.2.1)))))] (.leaf (res_u37 (v_u37 k (b_0.set (i64.wrap ((↑b_0.length : Int) - 1)).toNat ((b_0.getD (i64.wrap ((↑b_0.length : Int) - 1)).toNat T0.dflt).1, i64.wrap ((b_0.getD (i64.wrap ((↑b_0.length : Int) - 1)).toNat T0.dflt).2.1 + r_.2.1), i64.wrap (r_.1 - v_u42 k (b_0.getD (i64.wrap ((↑b_0.length : Int) - 1)).toNat T0.dflt) (i64.wrap ((b_0.getD (i64.wrap ((↑b_0.length : Int) - 1)).toNat T0.dflt).2.1 - 1))) == (-1))) (v_u45 k r_ r_.2.1 (i64.wrap (r_.2.1 - r_.2.1))))) (bo_u37 b_0 r_ (v_u37 k (b_0.set (i64.wrap ((↑b_0.length : Int) - 1)).toNat ((b_0.getD (i64.wrap ((↑b_0.length : Int) - 1)).toNat T0.dflt).1, i64.wrap ((b_0.getD (i64.wrap ((↑b_0.length : Int) - 1)).toNat T0.dflt).2.1 + r_.2.1), i64.wrap (r_.1 - v_u42 k (b_0.getD (i64.wrap ((↑b_0.length : Int) - 1)).toNat T0.dflt) (i64.wrap ((b_0.getD (i64.wrap ((↑b_0.length : Int) - 1)).toNat T0.dflt).2.1 - 1))) == (-1))) (v_u45 k r_ r_.2.1 (i64.wrap (r_.2.1 - r_.2.1)))))))) (.need [(0 : Int) ≤ i64.wrap ((↑b_0.length : Int) - (1 : Int)), i64.wrap ((↑b_0.length : Int) - (1 : Int)) < (↑b_0.length : Int)] (.need [CC Try.prog 38 (args_u45 r_ 1 (i64.wrap (r_.2.1 - 1))) (bin_u45 r_ 1 (i64.wrap (r_.2.1 - 1))) (res_u45 (v_u45 k r_ 1 (i64.wrap (r_.2.1 - 1)))) (bo_u45 r_ 1 (i64.wrap (r_.2.1 - 1)) (v_u45 k r_ 1 (i64.wrap (r_.2.1 - 1)))), CC Try.prog 45 (args_u37 (b_0.set (i64.wrap ((↑b_0.length : Int) - 1)).toNat ((b_0.getD (i64.wrap ((↑b_0.length : Int) - 1)).toNat T0.dflt).1, i64.wrap ((b_0.getD (i64.wrap ((↑b_0.length : Int) - 1)).toNat T0.dflt).2.1 + 1), i64.wrap (r_.1 - v_u42 k (b_0.getD (i64.wrap ((↑b_0.length : Int) - 1)).toNat T0.dflt) (i64.wrap ((b_0.getD (i64.wrap ((↑b_0.length : Int) - 1)).toNat T0.dflt).2.1 - 1))) == (-1))) (v_u45 k r_ 1 (i64.wrap (r_.2.1 - 1)))) (bin_u37 (b_0.set (i64.wrap ((↑b_0.length : Int) - 1)).toNat ((b_0.getD (i64.wrap ((↑b_0.length : Int) - 1)).toNat T0.dflt).1, i64.wrap ((b_0.getD (i64.wrap ((↑b_0.length : Int) - 1)).toNat T0.dflt).2.1 + 1), i64.wrap (r_.1 - v_u42 k (b_0.getD (i64.wrap ((↑b_0.length : Int) - 1)).toNat T0.dflt) (i64.wrap ((b_0.getD (i64.wrap ((↑b_0.length : Int) - 1)).toNat T0.dflt).2.1 - 1))) == (-1))) (v_u45 k r_ 1 (i64.wrap (r_.2.1 - 1)))) (res_u37 (v_u37 k (b_0.set (i64.wrap ((↑b_0.length : Int) - 1)).toNat ((b_0.getD (i64.wrap ((↑b_0.length : Int) - 1)).toNat T0.dflt).1, i64.wrap ((b_0.getD (i64.wrap ((↑b_0.length : Int) - 1)).toNat T0.dflt).2.1 + 1), i64.wrap (r_.1 - v_u42 k (b_0.getD (i64.wrap ((↑b_0.length : Int) - 1)).toNat T0.dflt) (i64.wrap ((b_0.getD (i64.wrap ((↑b_0.length : Int) - 1)).toNat T0.dflt).2.1 - 1))) == (-1))) (v_u45 k r_ 1 (i64.wrap (r_.2.1 - 1))))) (bo_u37 (b_0.set (i64.wrap ((↑b_0.length : Int) - 1)).toNat ((b_0.getD (i64.wrap ((↑b_0.length : Int) - 1)).toNat T0.dflt).1, i64.wrap ((b_0.getD (i64.wrap ((↑b_0.length : Int) - 1)).toNat T0.dflt).2.1 + 1), i64.wrap (r_.1 - v_u42 k (b_0.getD (i64.wrap ((↑b_0.length : Int) - 1)).toNat T0.dflt) (i64.wrap ((b_0.getD (i64.wrap ((↑b_0.length : Int) - 1)).toNat T0.dflt).2.1 - 1))) == (-1))) (v_u45 k r_ 1 (i64.wrap (r_.2.1 - 1))) (v_u37 k (b_0.set (i64.wrap ((↑b_0.length : Int) - 1)).toNat ((b_0.getD (i64.wrap ((↑b_0.length : Int) - 1)).toNat T0.dflt).1, i64.wrap ((b_0.getD (i64.wrap ((↑b_0.length : Int) - 1)).toNat T0.dflt).2.1 + 1), i64.wrap (r_.1 - v_u42 k (b_0.getD (i64.wrap ((↑b_0.length : Int) - 1)).toNat T0.dflt) (i64.wrap ((b_0.getD (i64.wrap ((↑b_0.length : Int) - 1)).toNat T0.dflt).2.1 - 1))) == (-1))) (v_u45 k r_ 1 (i64.wrap (r_.2.1 - 1)))))] (.leaf (res_u37 (v_u37 k (b_0.set (i64.wrap ((↑b_0.length : Int) - 1)).toNat ((b_0.getD (i64.wrap ((↑b_0.length : Int) - 1)).toNat T0.dflt).1, i64.wrap ((b_0.getD (i64.wrap ((↑b_0.length : Int) - 1)).toNat T0.dflt).2.1 + 1), i64.wrap (r_.1 - v_u42 k (b_0.getD (i64.wrap ((↑b_0.length : Int) - 1)).toNat T0.dflt) (i64.wrap ((b_0.getD (i64.wrap ((↑b_0.length : Int) - 1)).toNat T0.dflt).2.1 - 1))) == (-1))) (v_u45 k r_ 1 (i64.wrap (r_.2.1 - 1))))) (bo_u37 b_0 r_ (v_u37 k (b_0.set (i64.wrap ((↑b_0.length : Int) - 1)).toNat ((b_0.getD (i64.wrap ((↑b_0.length : Int) - 1)).toNat T0.dflt).1, i64.wrap ((b_0.getD (i64.wrap ((↑b_0.length : Int) - 1)).toNat T0.dflt).2.1 + 1), i64.wrap (r_.1 - v_u42 k (b_0.getD (i64.wrap ((↑b_0.length : Int) - 1)).toNat T0.dflt) (i64.wrap ((b_0.getD (i64.wrap ((↑b_0.length : Int) - 1)).toNat T0.dflt).2.1 - 1))) == (-1))) (v_u45 k r_ 1 (i64.wrap (r_.2.1 - 1)))))))))))))) (by kernel_rfl) ?_
  refine ⟨fun c => ?_, fun c => ?_⟩
  ·rw [cond_t (show ((decide (r_.2.1 < (1 : Int)))) = true from c)] at h
   cases h; exact ⟨rfl, rfl⟩
  ·rw [cond_f (show ((decide (r_.2.1 < (1 : Int)))) = false from c)] at h
   refine ⟨fun c => ?_, fun c => ?_⟩
   ·rw [cond_t (show (((↑b_0.length : Int) == (0 : Int))) = true from c)] at h
    by_cases q : ((f_u45 k r_ 0 r_.2.1).isSome = true) ∧ ((b_0.length + [v_u45 k r_ (0 : Int) r_.2.1].length) * (24 : Nat) ≤ (140737488355328 : Nat))
    ·rw [if_pos q] at h
     refine ⟨(conjC (cc_u45 k r_ 0 r_.2.1 q.1) (conjC q.2 conj0)), ?_⟩
     cases h; exact ⟨rfl, rfl⟩
    ·rw [if_neg q] at h; cases h
   ·rw [cond_f (show (((↑b_0.length : Int) == (0 : Int))) = false from c)] at h
    by_cases q : ((0 : Int) ≤ i64.wrap ((↑b_0.length : Int) - (1 : Int))) ∧ (i64.wrap ((↑b_0.length : Int) - (1 : Int)) < (↑b_0.length : Int))
    ·rw [if_pos q] at h
     refine ⟨(conjC q.1 (conjC q.2 conj0)), ?_⟩
     by_cases q : ((f_u42 k (b_0.getD (i64.wrap ((↑b_0.length : Int) - 1)).toNat T0.dflt) (i64.wrap ((b_0.getD (i64.wrap ((↑b_0.length : Int) - 1)).toNat T0.dflt).2.1 - 1))).isSome = true)
     ·rw [if_pos q] at h
      refine ⟨(conjC (cc_u42 k (b_0.getD (i64.wrap ((↑b_0.length : Int) - 1)).toNat T0.dflt) (i64.wrap ((b_0.getD (i64.wrap ((↑b_0.length : Int) - 1)).toNat T0.dflt).2.1 - 1)) q) conj0), ?_⟩
      refine ⟨fun c => ?_, fun c => ?_⟩
      ·rw [cond_t (show ((i64.wrap (r_.1 - v_u42 k (b_0.getD (i64.wrap ((↑b_0.length : Int) - (1 : Int))).toNat T0.dflt) (i64.wrap ((b_0.getD (i64.wrap ((↑b_0.length : Int) - (1 : Int))).toNat T0.dflt).2.1 - (1 : Int)))) != (1 : Int) && i64.wrap (r_.1 - v_u42 k (b_0.getD (i64.wrap ((↑b_0.length : Int) - (1 : Int))).toNat T0.dflt) (i64.wrap ((b_0.getD (i64.wrap ((↑b_0.length : Int) - (1 : Int))).toNat T0.dflt).2.1 - (1 : Int)))) != (-1 : Int) || decide ((b_0.getD (i64.wrap ((↑b_0.length : Int) - (1 : Int))).toNat T0.dflt).2.1 > (1 : Int)) && (! (i64.wrap (r_.1 - v_u42 k (b_0.getD (i64.wrap ((↑b_0.length : Int) - (1 : Int))).toNat T0.dflt) (i64.wrap ((b_0.getD (i64.wrap ((↑b_0.length : Int) - (1 : Int))).toNat T0.dflt).2.1 - (1 : Int)))) == (-1 : Int)) == (b_0.getD (i64.wrap ((↑b_0.length : Int) - (1 : Int))).toNat T0.dflt).2.2))) = true from c)] at h
       by_cases q : ((f_u45 k r_ 0 r_.2.1).isSome = true) ∧ ((b_0.length + [v_u45 k r_ (0 : Int) r_.2.1].length) * (24 : Nat) ≤ (140737488355328 : Nat))
       ·rw [if_pos q] at h
        refine ⟨(conjC (cc_u45 k r_ 0 r_.2.1 q.1) (conjC q.2 conj0)), ?_⟩
        cases h; exact ⟨rfl, rfl⟩
       ·rw [if_neg q] at h; cases h
      ·rw [cond_f (show ((i64.wrap (r_.1 - v_u42 k (b_0.getD (i64.wrap ((↑b_0.length : Int) - (1 : Int))).toNat T0.dflt) (i64.wrap ((b_0.getD (i64.wrap ((↑b_0.length : Int) - (1 : Int))).toNat T0.dflt).2.1 - (1 : Int)))) != (1 : Int) && i64.wrap (r_.1 - v_u42 k (b_0.getD (i64.wrap ((↑b_0.length : Int) - (1 : Int))).toNat T0.dflt) (i64.wrap ((b_0.getD (i64.wrap ((↑b_0.length : Int) - (1 : Int))).toNat T0.dflt).2.1 - (1 : Int)))) != (-1 : Int) || decide ((b_0.getD (i64.wrap ((↑b_0.length : Int) - (1 : Int))).toNat T0.dflt).2.1 > (1 : Int)) && (! (i64.wrap (r_.1 - v_u42 k (b_0.getD (i64.wrap ((↑b_0.length : Int) - (1 : Int))).toNat T0.dflt) (i64.wrap ((b_0.getD (i64.wrap ((↑b_0.length : Int) - (1 : Int))).toNat T0.dflt).2.1 - (1 : Int)))) == (-1 : Int)) == (b_0.getD (i64.wrap ((↑b_0.length : Int) - (1 : Int))).toNat T0.dflt).2.2))) = false from c)] at h
       refine ⟨fun c => ?_, fun c => ?_⟩
       ·rw [cond_t (show ((decide (r_.2.1 > (1 : Int)) && r_.2.2 == (i64.wrap (r_.1 - v_u42 k (b_0.getD (i64.wrap ((↑b_0.length : Int) - (1 : Int))).toNat T0.dflt) (i64.wrap ((b_0.getD (i64.wrap ((↑b_0.length : Int) - (1 : Int))).toNat T0.dflt).2.1 - (1 : Int)))) == (-1 : Int)))) = true from c)] at h
        by_cases q : ((0 : Int) ≤ i64.wrap ((↑b_0.length : Int) - (1 : Int))) ∧ (i64.wrap ((↑b_0.length : Int) - (1 : Int)) < (↑b_0.length : Int))
        ·rw [if_pos q] at h
         refine ⟨(conjC q.1 (conjC q.2 conj0)), ?_⟩
         by_cases q : ((f_u45 k r_ r_.2.1 (i64.wrap (r_.2.1 - r_.2.1))).isSome = true) ∧ ((f_u37 k (b_0.set (i64.wrap ((↑b_0.length : Int) - 1)).toNat ((b_0.getD (i64.wrap ((↑b_0.length : Int) - 1)).toNat T0.dflt).1, i64.wrap ((b_0.getD (i64.wrap ((↑b_0.length : Int) - 1)).toNat T0.dflt).2.1 + r_.2.1), i64.wrap (r_.1 - v_u42 k (b_0.getD (i64.wrap ((↑b_0.length : Int) - 1)).toNat T0.dflt) (i64.wrap ((b_0.getD (i64.wrap ((↑b_0.length : Int) - 1)).toNat T0.dflt).2.1 - 1))) == (-1))) (v_u45 k r_ r_.2.1 (i64.wrap (r_.2.1 - r_.2.1)))).isSome = true)
         ·rw [if_pos q] at h
          refine ⟨(conjC (cc_u45 k r_ r_.2.1 (i64.wrap (r_.2.1 - r_.2.1)) q.1) (conjC (ih (b_0.set (i64.wrap ((↑b_0.length : Int) - 1)).toNat ((b_0.getD (i64.wrap ((↑b_0.length : Int) - 1)).toNat T0.dflt).1, i64.wrap ((b_0.getD (i64.wrap ((↑b_0.length : Int) - 1)).toNat T0.dflt).2.1 + r_.2.1), i64.wrap (r_.1 - v_u42 k (b_0.getD (i64.wrap ((↑b_0.length : Int) - 1)).toNat T0.dflt) (i64.wrap ((b_0.getD (i64.wrap ((↑b_0.length : Int) - 1)).toNat T0.dflt).2.1 - 1))) == (-1))) (v_u45 k r_ r_.2.1 (i64.wrap (r_.2.1 - r_.2.1))) q.2) conj0)), ?_⟩
          cases h; exact ⟨rfl, rfl⟩
         ·rw [if_neg q] at h; cases h
        ·rw [if_neg q] at h; cases h
       ·rw [cond_f (show ((decide (r_.2.1 > (1 : Int)) && r_.2.2 == (i64.wrap (r_.1 - v_u42 k (b_0.getD (i64.wrap ((↑b_0.length : Int) - (1 : Int))).toNat T0.dflt) (i64.wrap ((b_0.getD (i64.wrap ((↑b_0.length : Int) - (1 : Int))).toNat T0.dflt).2.1 - (1 : Int)))) == (-1 : Int)))) = false from c)] at h
        by_cases q : ((0 : Int) ≤ i64.wrap ((↑b_0.length : Int) - (1 : Int))) ∧ (i64.wrap ((↑b_0.length : Int) - (1 : Int)) < (↑b_0.length : Int))
        ·rw [if_pos q] at h
         refine ⟨(conjC q.1 (conjC q.2 conj0)), ?_⟩
         by_cases q : ((f_u45 k r_ 1 (i64.wrap (r_.2.1 - 1))).isSome = true) ∧ ((f_u37 k (b_0.set (i64.wrap ((↑b_0.length : Int) - 1)).toNat ((b_0.getD (i64.wrap ((↑b_0.length : Int) - 1)).toNat T0.dflt).1, i64.wrap ((b_0.getD (i64.wrap ((↑b_0.length : Int) - 1)).toNat T0.dflt).2.1 + 1), i64.wrap (r_.1 - v_u42 k (b_0.getD (i64.wrap ((↑b_0.length : Int) - 1)).toNat T0.dflt) (i64.wrap ((b_0.getD (i64.wrap ((↑b_0.length : Int) - 1)).toNat T0.dflt).2.1 - 1))) == (-1))) (v_u45 k r_ 1 (i64.wrap (r_.2.1 - 1)))).isSome = true)
         ·rw [if_pos q] at h
          refine ⟨(conjC (cc_u45 k r_ 1 (i64.wrap (r_.2.1 - 1)) q.1) (conjC (ih (b_0.set (i64.wrap ((↑b_0.length : Int) - 1)).toNat ((b_0.getD (i64.wrap ((↑b_0.length : Int) - 1)).toNat T0.dflt).1, i64.wrap ((b_0.getD (i64.wrap ((↑b_0.length : Int) - 1)).toNat T0.dflt).2.1 + 1), i64.wrap (r_.1 - v_u42 k (b_0.getD (i64.wrap ((↑b_0.length : Int) - 1)).toNat T0.dflt) (i64.wrap ((b_0.getD (i64.wrap ((↑b_0.length : Int) - 1)).toNat T0.dflt).2.1 - 1))) == (-1))) (v_u45 k r_ 1 (i64.wrap (r_.2.1 - 1))) q.2) conj0)), ?_⟩
          cases h; exact ⟨rfl, rfl⟩
         ·rw [if_neg q] at h; cases h
        ·rw [if_neg q] at h; cases h
     ·rw [if_neg q] at h; cases h
    ·rw [if_neg q] at h; cases h
theorem cc_u37 (k : Nat) (b_0 : List (T0).T) (r_ : T0.T) (h : (f_u37 k b_0 r_).isSome = true) : CC Try.prog 45 (args_u37 b_0 r_) (bin_u37 b_0 r_) (res_u37 (v_u37 k b_0 r_)) (bo_u37 b_0 r_ (v_u37 k b_0 r_)) := by
 cases e : f_u37 k b_0 r_ with
 | none => rw [e] at h; cases h
 | some r => rw [show v_u37 k b_0 r_ = r by simp [v_u37, e]]; exact of_u37 k b_0 r_ r e

end
end Go.AM
namespace Go.AM
open Go Go.Proofs Go.IntKind
set_option linter.unusedVariables false
noncomputable section
abbrev R_u39 : Type := List (T0).T
def res_u39 (r : R_u39) : AV := .tup []
def bo_u39 (m_ : List (T0).T) (from_ : Int) (to_ : Int) (f_f00 : List (T0).T) (r : R_u39) : List (Nat × Blk) := [(0, .var 92 [.own 1 1]), (1, .row 57 T0 r)]
def args_u39 (m_ : List (T0).T) (from_ : Int) (to_ : Int) (f_f00 : List (T0).T) : List AV := [.r (.ro T0 m_), .r (.v (.int .i64 from_)), .r (.v (.int .i64 to_)), .fn (.func 45) [.ptr 0 0 0] []]
def bin_u39 (m_ : List (T0).T) (from_ : Int) (to_ : Int) (f_f00 : List (T0).T) : List Blk := [.var 92 [.own 1 0], .row 57 T0 f_f00]
def st_u39_2 (m_ : List (T0).T) (from_ : Int) (to_ : Int) (f_f00 : List (T0).T) (y0 : Int) (y1 : Int) (y2 : Int) (y3 : List (T0).T) (y4 : Int) (y5 : Int) (y6 : List (T0).T) : St := ⟨mkS 46 [(1, .r (.v (.int .i64 y0))), (2, .r (.v (.int .i64 y1))), (3, .fn ((Fn.func 45)) [.ptr 0 0 0] []), (8, .r (.v (.int .i64 y2))), (13, .r (.ro T0 y3)), (14, .r (.v (.int .i64 y4))), (15, .r (.v (.int .i64 y5)))], [(0, 0, .var 92 [.own 1 1]), (1, 1, .row 57 T0 y6)]⟩
def f_u39_2 (k : Nat) (m_ : List (T0).T) (from_ : Int) (to_ : Int) (f_f00 : List (T0).T) : Nat → Int → Int → Int → List (T0).T → Int → Int → List (T0).T → Option R_u39
 | 0, _, _, _, _, _, _, _ => none
 | j + 1, y0, y1, y2, y3, y4, y5, y6 =>
 bif (decide (y5 < y4)) then
 if (0 ≤ y5) ∧ (y5 < (↑y3.length : Int)) then
 bif (decide ((if y2 > y0 then y2 else y0) < if i64.wrap (y2 + (y3.getD y5.toNat T0.dflt).2.1) < y1 then i64.wrap (y2 + (y3.getD y5.toNat T0.dflt).2.1) else y1)) then
 if ((f_u45 k (y3.getD y5.toNat T0.dflt) (i64.wrap ((if y2 > y0 then y2 else y0) - y2)) (i64.wrap ((if i64.wrap (y2 + (y3.getD y5.toNat T0.dflt).2.1) < y1 then i64.wrap (y2 + (y3.getD y5.toNat T0.dflt).2.1) else y1) - if y2 > y0 then y2 else y0))).isSome = true) ∧ ((f_u37 k y6 (v_u45 k (y3.getD y5.toNat T0.dflt) (i64.wrap ((if y2 > y0 then y2 else y0) - y2)) (i64.wrap ((if i64.wrap (y2 + (y3.getD y5.toNat T0.dflt).2.1) < y1 then i64.wrap (y2 + (y3.getD y5.toNat T0.dflt).2.1) else y1) - if y2 > y0 then y2 else y0)))).isSome = true) then
 f_u39_2 k m_ from_ to_ f_f00 j y0 y1 ((i64.wrap (y2 + (y3.getD y5.toNat T0.dflt).2.1))) y3 y4 ((i64.wrap (y5 + 1))) ((v_u37 k y6 (v_u45 k (y3.getD y5.toNat T0.dflt) (i64.wrap ((if y2 > y0 then y2 else y0) - y2)) (i64.wrap ((if i64.wrap (y2 + (y3.getD y5.toNat T0.dflt).2.1) < y1 then i64.wrap (y2 + (y3.getD y5.toNat T0.dflt).2.1) else y1) - if y2 > y0 then y2 else y0)))))
 else none
 else
 f_u39_2 k m_ from_ to_ f_f00 j y0 y1 ((i64.wrap (y2 + (y3.getD y5.toNat T0.dflt).2.1))) y3 y4 ((i64.wrap (y5 + 1))) y6
 else none
 else
 some y6
def f_u39 (k : Nat) (m_ : List (T0).T) (from_ : Int) (to_ : Int) (f_f00 : List (T0).T) : Option R_u39 :=
 f_u39_2 k m_ from_ to_ f_f00 k from_ to_ 0 m_ ((↑m_.length : Int)) 0 f_f00
def v_u39 (k : Nat) (m_ : List (T0).T) (from_ : Int) (to_ : Int) (f_f00 : List (T0).T) : R_u39 := (f_u39 k m_ from_ to_ f_f00).getD []
def K_u39 (k : Nat) : Calld := ⟨fun g xs => match g with
 | 38 => match xs with
  | [_, _, _] => some [false, false, false]
  | _ => none
 | 45 => match xs with
  | [.ptr _ _ _, _] => some [true, false]
  | _ => none
 | _ => none, fun g xs bs => match g with
 | 38 => match xs, bs with
  | [.agg qr_, .r (.v (.int .i64 x_)), .r (.v (.int .i64 n_))], [] => (decS [] T0 qr_).bind fun r_ => some (.one (res_u45 (v_u45 k r_ x_ n_), bo_u45 r_ x_ n_ (v_u45 k r_ x_ n_)))
  | _, _ => none
 | 45 => match xs, bs with
  | [.ptr 0 0 0, .agg qr_], [.var 92 [.own 1 0], .row 57 tb_0_ qb_0] => (decS [] T0 qr_).bind fun r_ => (castL tb_0_ T0 qb_0).bind fun b_0 => some (.one (res_u37 (v_u37 k b_0 r_), bo_u37 b_0 r_ (v_u37 k b_0 r_)))
  | _, _ => none
 | _ => none⟩
theorem ev_u39 (k : Nat) (m_ : List (T0).T) (from_ : Int) (to_ : Int) (f_f00 : List (T0).T) : ∀ j, (∀ (y0 : Int) (y1 : Int) (y2 : Int) (y3 : List (T0).T) (y4 : Int) (y5 : Int) (y6 : List (T0).T) (r : R_u39), f_u39_2 k m_ from_ to_ f_f00 j y0 y1 y2 y3 y4 y5 y6 = some r → Ev Try.prog Try.f26 2 (placeAt Try.f26 2) (st_u39_2 m_ from_ to_ f_f00 y0 y1 y2 y3 y4 y5 y6) (res_u39 r) (bo_u39 m_ from_ to_ f_f00 r))
 | 0 => by
  intros; rename_i h; simp [f_u39_2] at h
 | j + 1 => by
  have ih := ev_u39 k m_ from_ to_ f_f00 j
  ·intro y0 y1 y2 y3 y4 y5 y6 r h
   rw [f_u39_2] at h
   refine Ev.tree hm (R := Rt) (K := (K_u39 k)) (l := []) (C := [(2, [.autoB [1, 2, 3, 8, 13, 14, 15] false [1]])]) (E := [.autoB [] true [1]]) (n := 1000) (T := .test ((decide (y5 < y4))) (.need [0 ≤ y5, y5 < (↑y3.length : Int)] (.test ((decide ((if y2 > y0 then y2 else y0) < if i64.wrap (y2 + (y3.getD y5.toNat T0.dflt).2.1) < y1 then i64.wrap (y2 + (y3.getD y5.toNat T0.dflt).2.1) else y1))) (.need [CC Try.prog 38 (args_u45 (y3.getD y5.toNat T0.dflt) (i64.wrap ((if y2 > y0 then y2 else y0) - y2)) (i64.wrap ((if i64.wrap (y2 + (y3.getD y5.toNat T0.dflt).2.1) < y1 then i64.wrap (y2 + (y3.getD y5.toNat T0.dflt).2.1) else y1) - if y2 > y0 then y2 else y0))) (bin_u45 (y3.getD y5.toNat T0.dflt) (i64.wrap ((if y2 > y0 then y2 else y0) - y2)) (i64.wrap ((if i64.wrap (y2 + (y3.getD y5.toNat T0.dflt).2.1) < y1 then i64.wrap (y2 + (y3.getD y5.toNat T0.dflt).2.1) else y1) - if y2 > y0 then y2 else y0))) (res_u45 (v_u45 k (y3.getD y5.toNat T0.dflt) (i64.wrap ((if y2 > y0 then y2 else y0) - y2)) (i64.wrap ((if i64.wrap (y2 + (y3.getD y5.toNat T0.dflt).2.1) < y1 then i64.wrap (y2 + (y3.getD y5.toNat T0.dflt).2.1) else y1) - if y2 > y0 then y2 else y0)))) (bo_u45 (y3.getD y5.toNat T0.dflt) (i64.wrap ((if y2 > y0 then y2 else y0) - y2)) (i64.wrap ((if i64.wrap (y2 + (y3.getD y5.toNat T0.dflt).2.1) < y1 then i64.wrap (y2 + (y3.getD y5.toNat T0.dflt).2.1) else y1) - if y2 > y0 then y2 else y0)) (v_u45 k (y3.getD y5.toNat T0.dflt) (i64.wrap ((if y2 > y0 then y2 else y0) - y2)) (i64.wrap ((if i64.wrap (y2 + (y3.getD y5.toNat T0.dflt).2.1) < y1 then i64.wrap (y2 + (y3.getD y5.toNat T0.dflt).2.1) else y1) - if y2 > y0 then y2 else y0)))), CC Try.prog 45 (args_u37 y6 (v_u45 k (y3.getD y5.toNat T0.dflt) (i64.wrap ((if y2 > y0 then y2 else y0) - y2)) (i64.wrap ((if i64.wrap (y2 + (y3.getD y5.toNat T0.dflt).2.1) < y1 then i64.wrap (y2 + (y3.getD y5.toNat T0.dflt).2.1) else y1) - if y2 > y0 then y2 else y0)))) (bin_u37 y6 (v_u45 k (y3.getD y5.toNat T0.dflt) (i64.wrap ((if y2 > y0 then y2 else y0) - y2)) (i64.wrap ((if i64.wrap (y2 + (y3.getD y5.toNat T0.dflt).2.1) < y1 then i64.wrap (y2 + (y3.getD y5.toNat T0.dflt).2.1) else y1) - if y2 > y0 then y2 else y0)))) (res_u37 (v_u37 k y6 (v_u45 k (y3.getD y5.toNat T0.dflt) (i64.wrap ((if y2 > y0 then y2 else y0) - y2)) (i64.wrap ((if i64.wrap (y2 + (y3.getD y5.toNat T0.dflt).2.1) < y1 then i64.wrap (y2 + (y3.getD y5.toNat T0.dflt).2.1) else y1) - if y2 > y0 then y2 else y0))))) (bo_u37 y6 (v_u45 k (y3.getD y5.toNat T0.dflt) (i64.wrap ((if y2 > y0 then y2 else y0) - y2)) (i64.wrap ((if i64.wrap (y2 + (y3.getD y5.toNat T0.dflt).2.1) < y1 then i64.wrap (y2 + (y3.getD y5.toNat T0.dflt).2.1) else y1) - if y2 > y0 then y2 else y0))) (v_u37 k y6 (v_u45 k (y3.getD y5.toNat T0.dflt) (i64.wrap ((if y2 > y0 then y2 else y0) - y2)) (i64.wrap ((if i64.wrap (y2 + (y3.getD y5.toNat T0.dflt).2.1) < y1 then i64.wrap (y2 + (y3.getD y5.toNat T0.dflt).2.1) else y1) - if y2 > y0 then y2 else y0)))))] (.cut 2 (placeAt Try.f26 2) (st_u39_2 m_ from_ to_ f_f00 y0 y1 ((i64.wrap (y2 + (y3.getD y5.toNat T0.dflt).2.1))) y3 y4 ((i64.wrap (y5 + 1))) ((v_u37 k y6 (v_u45 k (y3.getD y5.toNat T0.dflt) (i64.wrap ((if y2 > y0 then y2 else y0) - y2)) (i64.wrap ((if i64.wrap (y2 + (y3.getD y5.toNat T0.dflt).2.1) < y1 then i64.wrap (y2 + (y3.getD y5.toNat T0.dflt).2.1) else y1) - if y2 > y0 then y2 else y0)))))))) (.cut 2 (placeAt Try.f26 2) (st_u39_2 m_ from_ to_ f_f00 y0 y1 ((i64.wrap (y2 + (y3.getD y5.toNat T0.dflt).2.1))) y3 y4 ((i64.wrap (y5 + 1))) y6)))) (.leaf (res_u39 y6) (bo_u39 m_ from_ to_ f_f00 y6))) (by kernel_rfl) ?_
   refine ⟨fun c => ?_, fun c => ?_⟩
   ·rw [cond_t (show ((decide (y5 < y4))) = true from c)] at h
    by_cases q : (0 ≤ y5) ∧ (y5 < (↑y3.length : Int))
    ·rw [if_pos q] at h
     refine ⟨(conjC q.1 (conjC q.2 conj0)), ?_⟩
     refine ⟨fun c => ?_, fun c => ?_⟩
     ·rw [cond_t (show ((decide ((if y2 > y0 then y2 else y0) < if i64.wrap (y2 + (y3.getD y5.toNat T0.dflt).2.1) < y1 then i64.wrap (y2 + (y3.getD y5.toNat T0.dflt).2.1) else y1))) = true from c)] at h
      by_cases q : ((f_u45 k (y3.getD y5.toNat T0.dflt) (i64.wrap ((if y2 > y0 then y2 else y0) - y2)) (i64.wrap ((if i64.wrap (y2 + (y3.getD y5.toNat T0.dflt).2.1) < y1 then i64.wrap (y2 + (y3.getD y5.toNat T0.dflt).2.1) else y1) - if y2 > y0 then y2 else y0))).isSome = true) ∧ ((f_u37 k y6 (v_u45 k (y3.getD y5.toNat T0.dflt) (i64.wrap ((if y2 > y0 then y2 else y0) - y2)) (i64.wrap ((if i64.wrap (y2 + (y3.getD y5.toNat T0.dflt).2.1) < y1 then i64.wrap (y2 + (y3.getD y5.toNat T0.dflt).2.1) else y1) - if y2 > y0 then y2 else y0)))).isSome = true)
      ·rw [if_pos q] at h
       refine ⟨(conjC (cc_u45 k (y3.getD y5.toNat T0.dflt) (i64.wrap ((if y2 > y0 then y2 else y0) - y2)) (i64.wrap ((if i64.wrap (y2 + (y3.getD y5.toNat T0.dflt).2.1) < y1 then i64.wrap (y2 + (y3.getD y5.toNat T0.dflt).2.1) else y1) - if y2 > y0 then y2 else y0)) q.1) (conjC (cc_u37 k y6 (v_u45 k (y3.getD y5.toNat T0.dflt) (i64.wrap ((if y2 > y0 then y2 else y0) - y2)) (i64.wrap ((if i64.wrap (y2 + (y3.getD y5.toNat T0.dflt).2.1) < y1 then i64.wrap (y2 + (y3.getD y5.toNat T0.dflt).2.1) else y1) - if y2 > y0 then y2 else y0))) q.2) conj0)), ?_⟩
       exact ih y0 y1 ((i64.wrap (y2 + (y3.getD y5.toNat T0.dflt).2.1))) y3 y4 ((i64.wrap (y5 + 1))) ((v_u37 k y6 (v_u45 k (y3.getD y5.toNat T0.dflt) (i64.wrap ((if y2 > y0 then y2 else y0) - y2)) (i64.wrap ((if i64.wrap (y2 + (y3.getD y5.toNat T0.dflt).2.1) < y1 then i64.wrap (y2 + (y3.getD y5.toNat T0.dflt).2.1) else y1) - if y2 > y0 then y2 else y0))))) _ h
      ·rw [if_neg q] at h; cases h
     ·rw [cond_f (show ((decide ((if y2 > y0 then y2 else y0) < if i64.wrap (y2 + (y3.getD y5.toNat T0.dflt).2.1) < y1 then i64.wrap (y2 + (y3.getD y5.toNat T0.dflt).2.1) else y1))) = false from c)] at h
      exact ih y0 y1 ((i64.wrap (y2 + (y3.getD y5.toNat T0.dflt).2.1))) y3 y4 ((i64.wrap (y5 + 1))) y6 _ h
    ·rw [if_neg q] at h; cases h
   ·rw [cond_f (show ((decide (y5 < y4))) = false from c)] at h
    cases h; exact ⟨rfl, rfl⟩
theorem of_u39 (k : Nat) (m_ : List (T0).T) (from_ : Int) (to_ : Int) (f_f00 : List (T0).T) (r : R_u39) (h : f_u39 k m_ from_ to_ f_f00 = some r) : CC Try.prog 26 (args_u39 m_ from_ to_ f_f00) (bin_u39 m_ from_ to_ f_f00) (res_u39 r) (bo_u39 m_ from_ to_ f_f00 r) := by
 refine CC.of (fn := Try.f26) (by kernel_rfl) (by kernel_rfl) (by kernel_rfl) (by kernel_rfl) ?_
 unfold f_u39 at h
 refine Ev.tree hm (R := Rt) (K := (K_u39 k)) (l := []) (C := [(2, [.autoB [1, 2, 3, 8, 13, 14, 15] false [1]])]) (E := [.autoB [] true [1]]) (n := 1000) (T := .cut 2 (placeAt Try.f26 2) (st_u39_2 m_ from_ to_ f_f00 from_ to_ 0 m_ ((↑m_.length : Int)) 0 f_f00)) (by kernel_rfl) ?_
 exact (ev_u39 k m_ from_ to_ f_f00 k) from_ to_ 0 m_ ((↑m_.length : Int)) 0 f_f00 _ h
theorem cc_u39 (k : Nat) (m_ : List (T0).T) (from_ : Int) (to_ : Int) (f_f00 : List (T0).T) (h : (f_u39 k m_ from_ to_ f_f00).isSome = true) : CC Try.prog 26 (args_u39 m_ from_ to_ f_f00) (bin_u39 m_ from_ to_ f_f00) (res_u39 (v_u39 k m_ from_ to_ f_f00)) (bo_u39 m_ from_ to_ f_f00 (v_u39 k m_ from_ to_ f_f00)) := by
 cases e : f_u39 k m_ from_ to_ f_f00 with
 | none => rw [e] at h; cases h
 | some r => rw [show v_u39 k m_ from_ to_ f_f00 = r by simp [v_u39, e]]; exact of_u39 k m_ from_ to_ f_f00 r e

end
end Go.AM
namespace Go.AM
open Go Go.Proofs Go.IntKind
set_option linter.unusedVariables false
noncomputable section
abbrev R_u33 : Type := List (T0).T
def res_u33 (r : R_u33) : AV := .tup []
def bo_u33 (p_ : T0.T) (z00 : List (T0).T) (r : R_u33) : List (Nat × Blk) := [(0, .var 36 [.own 1 1]), (1, .row 57 T0 r)]
def args_u33 (p_ : T0.T) (z00 : List (T0).T) : List AV := [.agg (rvs (enc T0 p_)), .ptr 0 0 0]
def bin_u33 (p_ : T0.T) (z00 : List (T0).T) : List Blk := [.var 36 [.own 1 0], .row 57 T0 z00]
def f_u33 (k : Nat) (p_ : T0.T) (z00 : List (T0).T) : Option R_u33 :=
 if ((z00.length + [p_].length) * (24 : Nat) ≤ (140737488355328 : Nat)) then
 some (z00 ++ [p_])
 else none
def v_u33 (k : Nat) (p_ : T0.T) (z00 : List (T0).T) : R_u33 := (f_u33 k p_ z00).getD []
def K_u33 (k : Nat) : Calld := ⟨fun g xs => match g with
 | _ => none, fun g xs bs => match g with
 | _ => none⟩
theorem of_u33 (k : Nat) (p_ : T0.T) (z00 : List (T0).T) (r : R_u33) (h : f_u33 k p_ z00 = some r) : CC Try.prog 46 (args_u33 p_ z00) (bin_u33 p_ z00) (res_u33 r) (bo_u33 p_ z00 r) := by
 refine CC.of (fn := Try.f46) (by kernel_rfl) (by kernel_rfl) (by kernel_rfl) (by kernel_rfl) ?_
 unfold f_u33 at h
 refine Ev.tree hm (R := Rt) (K := (K_u33 k)) (l := []) (C := []) (E := [.autoB [] true [1]]) (n := 1000) (T := .need [(z00.length + [p_].length) * (24 : Nat) ≤ (140737488355328 : Nat)] (.leaf (res_u33 (z00 ++ [p_])) (bo_u33 p_ z00 (z00 ++ [p_])))) (by kernel_rfl) ?_
 by_cases q : ((z00.length + [p_].length) * (24 : Nat) ≤ (140737488355328 : Nat))
 ·rw [if_pos q] at h
  refine ⟨(conjC q conj0), ?_⟩
  cases h; exact ⟨rfl, rfl⟩
 ·rw [if_neg q] at h; cases h
theorem cc_u33 (k : Nat) (p_ : T0.T) (z00 : List (T0).T) (h : (f_u33 k p_ z00).isSome = true) : CC Try.prog 46 (args_u33 p_ z00) (bin_u33 p_ z00) (res_u33 (v_u33 k p_ z00)) (bo_u33 p_ z00 (v_u33 k p_ z00)) := by
 cases e : f_u33 k p_ z00 with
 | none => rw [e] at h; cases h
 | some r => rw [show v_u33 k p_ z00 = r by simp [v_u33, e]]; exact of_u33 k p_ z00 r e

end
end Go.AM
namespace Go.AM
open Go Go.Proofs Go.IntKind
set_option linter.unusedVariables false
noncomputable section
abbrev R_u41 : Type := List (T0).T
def res_u41 (r : R_u41) : AV := .tup []
def bo_u41 (m_ : List (T0).T) (from_ : Int) (to_ : Int) (f_c00 : List (T0).T) (r : R_u41) : List (Nat × Blk) := [(0, .var 36 [.own 1 1]), (1, .row 57 T0 r)]
def args_u41 (m_ : List (T0).T) (from_ : Int) (to_ : Int) (f_c00 : List (T0).T) : List AV := [.r (.ro T0 m_), .r (.v (.int .i64 from_)), .r (.v (.int .i64 to_)), .fn (.func 46) [] [.ptr 0 0 0]]
def bin_u41 (m_ : List (T0).T) (from_ : Int) (to_ : Int) (f_c00 : List (T0).T) : List Blk := [.var 36 [.own 1 0], .row 57 T0 f_c00]
def st_u41_2 (m_ : List (T0).T) (from_ : Int) (to_ : Int) (f_c00 : List (T0).T) (y0 : Int) (y1 : Int) (y2 : Int) (y3 : List (T0).T) (y4 : Int) (y5 : Int) (y6 : List (T0).T) : St := ⟨mkS 46 [(1, .r (.v (.int .i64 y0))), (2, .r (.v (.int .i64 y1))), (3, .fn ((Fn.func 46)) [] [.ptr 0 0 0]), (8, .r (.v (.int .i64 y2))), (13, .r (.ro T0 y3)), (14, .r (.v (.int .i64 y4))), (15, .r (.v (.int .i64 y5)))], [(0, 0, .var 36 [.own 1 1]), (1, 1, .row 57 T0 y6)]⟩
def f_u41_2 (k : Nat) (m_ : List (T0).T) (from_ : Int) (to_ : Int) (f_c00 : List (T0).T) : Nat → Int → Int → Int → List (T0).T → Int → Int → List (T0).T → Option R_u41
 | 0, _, _, _, _, _, _, _ => none
 | j + 1, y0, y1, y2, y3, y4, y5, y6 =>
 bif (decide (y5 < y4)) then
 if (0 ≤ y5) ∧ (y5 < (↑y3.length : Int)) then
 bif (decide ((if y2 > y0 then y2 else y0) < if i64.wrap (y2 + (y3.getD y5.toNat T0.dflt).2.1) < y1 then i64.wrap (y2 + (y3.getD y5.toNat T0.dflt).2.1) else y1)) then
 if ((f_u45 k (y3.getD y5.toNat T0.dflt) (i64.wrap ((if y2 > y0 then y2 else y0) - y2)) (i64.wrap ((if i64.wrap (y2 + (y3.getD y5.toNat T0.dflt).2.1) < y1 then i64.wrap (y2 + (y3.getD y5.toNat T0.dflt).2.1) else y1) - if y2 > y0 then y2 else y0))).isSome = true) ∧ ((f_u33 k (v_u45 k (y3.getD y5.toNat T0.dflt) (i64.wrap ((if y2 > y0 then y2 else y0) - y2)) (i64.wrap ((if i64.wrap (y2 + (y3.getD y5.toNat T0.dflt).2.1) < y1 then i64.wrap (y2 + (y3.getD y5.toNat T0.dflt).2.1) else y1) - if y2 > y0 then y2 else y0))) y6).isSome = true) then
 f_u41_2 k m_ from_ to_ f_c00 j y0 y1 ((i64.wrap (y2 + (y3.getD y5.toNat T0.dflt).2.1))) y3 y4 ((i64.wrap (y5 + 1))) ((v_u33 k (v_u45 k (y3.getD y5.toNat T0.dflt) (i64.wrap ((if y2 > y0 then y2 else y0) - y2)) (i64.wrap ((if i64.wrap (y2 + (y3.getD y5.toNat T0.dflt).2.1) < y1 then i64.wrap (y2 + (y3.getD y5.toNat T0.dflt).2.1) else y1) - if y2 > y0 then y2 else y0))) y6))
 else none
 else
 f_u41_2 k m_ from_ to_ f_c00 j y0 y1 ((i64.wrap (y2 + (y3.getD y5.toNat T0.dflt).2.1))) y3 y4 ((i64.wrap (y5 + 1))) y6
 else none
 else
 some y6
def f_u41 (k : Nat) (m_ : List (T0).T) (from_ : Int) (to_ : Int) (f_c00 : List (T0).T) : Option R_u41 :=
 f_u41_2 k m_ from_ to_ f_c00 k from_ to_ 0 m_ ((↑m_.length : Int)) 0 f_c00
def v_u41 (k : Nat) (m_ : List (T0).T) (from_ : Int) (to_ : Int) (f_c00 : List (T0).T) : R_u41 := (f_u41 k m_ from_ to_ f_c00).getD []
def K_u41 (k : Nat) : Calld := ⟨fun g xs => match g with
 | 38 => match xs with
  | [_, _, _] => some [false, false, false]
  | _ => none
 | 46 => match xs with
  | [_, .ptr _ _ _] => some [false, true]
  | _ => none
 | _ => none, fun g xs bs => match g with
 | 38 => match xs, bs with
  | [.agg qr_, .r (.v (.int .i64 x_)), .r (.v (.int .i64 n_))], [] => (decS [] T0 qr_).bind fun r_ => some (.one (res_u45 (v_u45 k r_ x_ n_), bo_u45 r_ x_ n_ (v_u45 k r_ x_ n_)))
  | _, _ => none
 | 46 => match xs, bs with
  | [.agg qp_, .ptr 0 0 0], [.var 36 [.own 1 0], .row 57 tz00_ qz00] => (decS [] T0 qp_).bind fun p_ => (castL tz00_ T0 qz00).bind fun z00 => some (.one (res_u33 (v_u33 k p_ z00), bo_u33 p_ z00 (v_u33 k p_ z00)))
  | _, _ => none
 | _ => none⟩
theorem ev_u41 (k : Nat) (m_ : List (T0).T) (from_ : Int) (to_ : Int) (f_c00 : List (T0).T) : ∀ j, (∀ (y0 : Int) (y1 : Int) (y2 : Int) (y3 : List (T0).T) (y4 : Int) (y5 : Int) (y6 : List (T0).T) (r : R_u41), f_u41_2 k m_ from_ to_ f_c00 j y0 y1 y2 y3 y4 y5 y6 = some r → Ev Try.prog Try.f26 2 (placeAt Try.f26 2) (st_u41_2 m_ from_ to_ f_c00 y0 y1 y2 y3 y4 y5 y6) (res_u41 r) (bo_u41 m_ from_ to_ f_c00 r))
 | 0 => by
  intros; rename_i h; simp [f_u41_2] at h
 | j + 1 => by
  have ih := ev_u41 k m_ from_ to_ f_c00 j
  ·intro y0 y1 y2 y3 y4 y5 y6 r h
   rw [f_u41_2] at h
   refine Ev.tree hm (R := Rt) (K := (K_u41 k)) (l := []) (C := [(2, [.autoB [1, 2, 3, 8, 13, 14, 15] false [1]])]) (E := [.autoB [] true [1]]) (n := 1000) (T := .test ((decide (y5 < y4))) (.need [0 ≤ y5, y5 < (↑y3.length : Int)] (.test ((decide ((if y2 > y0 then y2 else y0) < if i64.wrap (y2 + (y3.getD y5.toNat T0.dflt).2.1) < y1 then i64.wrap (y2 + (y3.getD y5.toNat T0.dflt).2.1) else y1))) (.need [CC Try.prog 38 (args_u45 (y3.getD y5.toNat T0.dflt) (i64.wrap ((if y2 > y0 then y2 else y0) - y2)) (i64.wrap ((if i64.wrap (y2 + (y3.getD y5.toNat T0.dflt).2.1) < y1 then i64.wrap (y2 + (y3.getD y5.toNat T0.dflt).2.1) else y1) - if y2 > y0 then y2 else y0))) (bin_u45 (y3.getD y5.toNat T0.dflt) (i64.wrap ((if y2 > y0 then y2 else y0) - y2)) (i64.wrap ((if i64.wrap (y2 + (y3.getD y5.toNat T0.dflt).2.1) < y1 then i64.wrap (y2 + (y3.getD y5.toNat T0.dflt).2.1) else y1) - if y2 > y0 then y2 else y0))) (res_u45 (v_u45 k (y3.getD y5.toNat T0.dflt) (i64.wrap ((if y2 > y0 then y2 else y0) - y2)) (i64.wrap ((if i64.wrap (y2 + (y3.getD y5.toNat T0.dflt).2.1) < y1 then i64.wrap (y2 + (y3.getD y5.toNat T0.dflt).2.1) else y1) - if y2 > y0 then y2 else y0)))) (bo_u45 (y3.getD y5.toNat T0.dflt) (i64.wrap ((if y2 > y0 then y2 else y0) - y2)) (i64.wrap ((if i64.wrap (y2 + (y3.getD y5.toNat T0.dflt).2.1) < y1 then i64.wrap (y2 + (y3.getD y5.toNat T0.dflt).2.1) else y1) - if y2 > y0 then y2 else y0)) (v_u45 k (y3.getD y5.toNat T0.dflt) (i64.wrap ((if y2 > y0 then y2 else y0) - y2)) (i64.wrap ((if i64.wrap (y2 + (y3.getD y5.toNat T0.dflt).2.1) < y1 then i64.wrap (y2 + (y3.getD y5.toNat T0.dflt).2.1) else y1) - if y2 > y0 then y2 else y0)))), CC Try.prog 46 (args_u33 (v_u45 k (y3.getD y5.toNat T0.dflt) (i64.wrap ((if y2 > y0 then y2 else y0) - y2)) (i64.wrap ((if i64.wrap (y2 + (y3.getD y5.toNat T0.dflt).2.1) < y1 then i64.wrap (y2 + (y3.getD y5.toNat T0.dflt).2.1) else y1) - if y2 > y0 then y2 else y0))) y6) (bin_u33 (v_u45 k (y3.getD y5.toNat T0.dflt) (i64.wrap ((if y2 > y0 then y2 else y0) - y2)) (i64.wrap ((if i64.wrap (y2 + (y3.getD y5.toNat T0.dflt).2.1) < y1 then i64.wrap (y2 + (y3.getD y5.toNat T0.dflt).2.1) else y1) - if y2 > y0 then y2 else y0))) y6) (res_u33 (v_u33 k (v_u45 k (y3.getD y5.toNat T0.dflt) (i64.wrap ((if y2 > y0 then y2 else y0) - y2)) (i64.wrap ((if i64.wrap (y2 + (y3.getD y5.toNat T0.dflt).2.1) < y1 then i64.wrap (y2 + (y3.getD y5.toNat T0.dflt).2.1) else y1) - if y2 > y0 then y2 else y0))) y6)) (bo_u33 (v_u45 k (y3.getD y5.toNat T0.dflt) (i64.wrap ((if y2 > y0 then y2 else y0) - y2)) (i64.wrap ((if i64.wrap (y2 + (y3.getD y5.toNat T0.dflt).2.1) < y1 then i64.wrap (y2 + (y3.getD y5.toNat T0.dflt).2.1) else y1) - if y2 > y0 then y2 else y0))) y6 (v_u33 k (v_u45 k (y3.getD y5.toNat T0.dflt) (i64.wrap ((if y2 > y0 then y2 else y0) - y2)) (i64.wrap ((if i64.wrap (y2 + (y3.getD y5.toNat T0.dflt).2.1) < y1 then i64.wrap (y2 + (y3.getD y5.toNat T0.dflt).2.1) else y1) - if y2 > y0 then y2 else y0))) y6))] (.cut 2 (placeAt Try.f26 2) (st_u41_2 m_ from_ to_ f_c00 y0 y1 ((i64.wrap (y2 + (y3.getD y5.toNat T0.dflt).2.1))) y3 y4 ((i64.wrap (y5 + 1))) ((v_u33 k (v_u45 k (y3.getD y5.toNat T0.dflt) (i64.wrap ((if y2 > y0 then y2 else y0) - y2)) (i64.wrap ((if i64.wrap (y2 + (y3.getD y5.toNat T0.dflt).2.1) < y1 then i64.wrap (y2 + (y3.getD y5.toNat T0.dflt).2.1) else y1) - if y2 > y0 then y2 else y0))) y6))))) (.cut 2 (placeAt Try.f26 2) (st_u41_2 m_ from_ to_ f_c00 y0 y1 ((i64.wrap (y2 + (y3.getD y5.toNat T0.dflt).2.1))) y3 y4 ((i64.wrap (y5 + 1))) y6)))) (.leaf (res_u41 y6) (bo_u41 m_ from_ to_ f_c00 y6))) (by kernel_rfl) ?_
   refine ⟨fun c => ?_, fun c => ?_⟩
   ·rw [cond_t (show ((decide (y5 < y4))) = true from c)] at h
    by_cases q : (0 ≤ y5) ∧ (y5 < (↑y3.length : Int))
    ·rw [if_pos q] at h
     refine ⟨(conjC q.1 (conjC q.2 conj0)), ?_⟩
     refine ⟨fun c => ?_, fun c => ?_⟩
     ·rw [cond_t (show ((decide ((if y2 > y0 then y2 else y0) < if i64.wrap (y2 + (y3.getD y5.toNat T0.dflt).2.1) < y1 then i64.wrap (y2 + (y3.getD y5.toNat T0.dflt).2.1) else y1))) = true from c)] at h
      by_cases q : ((f_u45 k (y3.getD y5.toNat T0.dflt) (i64.wrap ((if y2 > y0 then y2 else y0) - y2)) (i64.wrap ((if i64.wrap (y2 + (y3.getD y5.toNat T0.dflt).2.1) < y1 then i64.wrap (y2 + (y3.getD y5.toNat T0.dflt).2.1) else y1) - if y2 > y0 then y2 else y0))).isSome = true) ∧ ((f_u33 k (v_u45 k (y3.getD y5.toNat T0.dflt) (i64.wrap ((if y2 > y0 then y2 else y0) - y2)) (i64.wrap ((if i64.wrap (y2 + (y3.getD y5.toNat T0.dflt).2.1) < y1 then i64.wrap (y2 + (y3.getD y5.toNat T0.dflt).2.1) else y1) - if y2 > y0 then y2 else y0))) y6).isSome = true)
      ·rw [if_pos q] at h
       refine ⟨(conjC (cc_u45 k (y3.getD y5.toNat T0.dflt) (i64.wrap ((if y2 > y0 then y2 else y0) - y2)) (i64.wrap ((if i64.wrap (y2 + (y3.getD y5.toNat T0.dflt).2.1) < y1 then i64.wrap (y2 + (y3.getD y5.toNat T0.dflt).2.1) else y1) - if y2 > y0 then y2 else y0)) q.1) (conjC (cc_u33 k (v_u45 k (y3.getD y5.toNat T0.dflt) (i64.wrap ((if y2 > y0 then y2 else y0) - y2)) (i64.wrap ((if i64.wrap (y2 + (y3.getD y5.toNat T0.dflt).2.1) < y1 then i64.wrap (y2 + (y3.getD y5.toNat T0.dflt).2.1) else y1) - if y2 > y0 then y2 else y0))) y6 q.2) conj0)), ?_⟩
       exact ih y0 y1 ((i64.wrap (y2 + (y3.getD y5.toNat T0.dflt).2.1))) y3 y4 ((i64.wrap (y5 + 1))) ((v_u33 k (v_u45 k (y3.getD y5.toNat T0.dflt) (i64.wrap ((if y2 > y0 then y2 else y0) - y2)) (i64.wrap ((if i64.wrap (y2 + (y3.getD y5.toNat T0.dflt).2.1) < y1 then i64.wrap (y2 + (y3.getD y5.toNat T0.dflt).2.1) else y1) - if y2 > y0 then y2 else y0))) y6)) _ h
      ·rw [if_neg q] at h; cases h
     ·rw [cond_f (show ((decide ((if y2 > y0 then y2 else y0) < if i64.wrap (y2 + (y3.getD y5.toNat T0.dflt).2.1) < y1 then i64.wrap (y2 + (y3.getD y5.toNat T0.dflt).2.1) else y1))) = false from c)] at h
      exact ih y0 y1 ((i64.wrap (y2 + (y3.getD y5.toNat T0.dflt).2.1))) y3 y4 ((i64.wrap (y5 + 1))) y6 _ h
    ·rw [if_neg q] at h; cases h
   ·rw [cond_f (show ((decide (y5 < y4))) = false from c)] at h
    cases h; exact ⟨rfl, rfl⟩
theorem of_u41 (k : Nat) (m_ : List (T0).T) (from_ : Int) (to_ : Int) (f_c00 : List (T0).T) (r : R_u41) (h : f_u41 k m_ from_ to_ f_c00 = some r) : CC Try.prog 26 (args_u41 m_ from_ to_ f_c00) (bin_u41 m_ from_ to_ f_c00) (res_u41 r) (bo_u41 m_ from_ to_ f_c00 r) := by
 refine CC.of (fn := Try.f26) (by kernel_rfl) (by kernel_rfl) (by kernel_rfl) (by kernel_rfl) ?_
 unfold f_u41 at h
 refine Ev.tree hm (R := Rt) (K := (K_u41 k)) (l := []) (C := [(2, [.autoB [1, 2, 3, 8, 13, 14, 15] false [1]])]) (E := [.autoB [] true [1]]) (n := 1000) (T := .cut 2 (placeAt Try.f26 2) (st_u41_2 m_ from_ to_ f_c00 from_ to_ 0 m_ ((↑m_.length : Int)) 0 f_c00)) (by kernel_rfl) ?_
 exact (ev_u41 k m_ from_ to_ f_c00 k) from_ to_ 0 m_ ((↑m_.length : Int)) 0 f_c00 _ h
theorem cc_u41 (k : Nat) (m_ : List (T0).T) (from_ : Int) (to_ : Int) (f_c00 : List (T0).T) (h : (f_u41 k m_ from_ to_ f_c00).isSome = true) : CC Try.prog 26 (args_u41 m_ from_ to_ f_c00) (bin_u41 m_ from_ to_ f_c00) (res_u41 (v_u41 k m_ from_ to_ f_c00)) (bo_u41 m_ from_ to_ f_c00 (v_u41 k m_ from_ to_ f_c00)) := by
 cases e : f_u41 k m_ from_ to_ f_c00 with
 | none => rw [e] at h; cases h
 | some r => rw [show v_u41 k m_ from_ to_ f_c00 = r by simp [v_u41, e]]; exact of_u41 k m_ from_ to_ f_c00 r e

end
end Go.AM
namespace Go.AM
open Go Go.Proofs Go.IntKind
set_option linter.unusedVariables false
noncomputable section
abbrev R_u46 : Type := List (T0).T
def res_u46 (r : R_u46) : AV := .tup []
def bo_u46 (m_ : List (T0).T) (f_f00 : List (T0).T) (r : R_u46) : List (Nat × Blk) := [(0, .var 92 [.own 1 1]), (1, .row 57 T0 r)]
def args_u46 (m_ : List (T0).T) (f_f00 : List (T0).T) : List AV := [.r (.ro T0 m_), .fn (.func 45) [.ptr 0 0 0] []]
def bin_u46 (m_ : List (T0).T) (f_f00 : List (T0).T) : List Blk := [.var 92 [.own 1 0], .row 57 T0 f_f00]
def st_u46_1 (m_ : List (T0).T) (f_f00 : List (T0).T) (y0 : List (T0).T) (y1 : Int) (y2 : List (T0).T) : St := ⟨mkS 35 [(0, .r (.ro T0 y0)), (1, .fn ((Fn.func 45)) [.ptr 0 0 0] []), (4, .r (.v (.int .i64 y1)))], [(0, 0, .var 92 [.own 1 1]), (1, 1, .row 57 T0 y2)]⟩
def f_u46_1 (k : Nat) (m_ : List (T0).T) (f_f00 : List (T0).T) : Nat → List (T0).T → Int → List (T0).T → Option R_u46
 | 0, _, _, _ => none
 | j + 1, y0, y1, y2 =>
 bif (decide (y1 ≥ (0 : Int))) then
 if (0 ≤ y1) ∧ (y1 < (↑y0.length : Int)) then
 if ((f_u42 k (y0.getD y1.toNat T0.dflt) (i64.wrap ((y0.getD y1.toNat T0.dflt).2.1 - 1))).isSome = true) ∧ ((f_u37 k y2 (v_u42 k (y0.getD y1.toNat T0.dflt) (i64.wrap ((y0.getD y1.toNat T0.dflt).2.1 - 1)), (y0.getD y1.toNat T0.dflt).2.1, ! (y0.getD y1.toNat T0.dflt).2.2 && decide ((y0.getD y1.toNat T0.dflt).2.1 > 1))).isSome = true) then
 f_u46_1 k m_ f_f00 j y0 ((i64.wrap (y1 - 1))) ((v_u37 k y2 (v_u42 k (y0.getD y1.toNat T0.dflt) (i64.wrap ((y0.getD y1.toNat T0.dflt).2.1 - 1)), (y0.getD y1.toNat T0.dflt).2.1, ! (y0.getD y1.toNat T0.dflt).2.2 && decide ((y0.getD y1.toNat T0.dflt).2.1 > 1))))
 else none
 else none
 else
 some y2
def f_u46 (k : Nat) (m_ : List (T0).T) (f_f00 : List (T0).T) : Option R_u46 :=
 f_u46_1 k m_ f_f00 k m_ ((i64.wrap ((↑m_.length : Int) - 1))) f_f00
def v_u46 (k : Nat) (m_ : List (T0).T) (f_f00 : List (T0).T) : R_u46 := (f_u46 k m_ f_f00).getD []
def K_u46 (k : Nat) : Calld := ⟨fun g xs => match g with
 | 44 => match xs with
  | [_, _] => some [false, false]
  | _ => none
 | 45 => match xs with
  | [.ptr _ _ _, _] => some [true, false]
  | _ => none
 | _ => none, fun g xs bs => match g with
 | 44 => match xs, bs with
  | [.agg qr_, .r (.v (.int .i64 x_))], [] => (decS [] T0 qr_).bind fun r_ => some (.one (res_u42 (v_u42 k r_ x_), bo_u42 r_ x_ (v_u42 k r_ x_)))
  | _, _ => none
 | 45 => match xs, bs with
  | [.ptr 0 0 0, .agg qr_], [.var 92 [.own 1 0], .row 57 tb_0_ qb_0] => (decS [] T0 qr_).bind fun r_ => (castL tb_0_ T0 qb_0).bind fun b_0 => some (.one (res_u37 (v_u37 k b_0 r_), bo_u37 b_0 r_ (v_u37 k b_0 r_)))
  | _, _ => none
 | _ => none⟩
theorem ev_u46 (k : Nat) (m_ : List (T0).T) (f_f00 : List (T0).T) : ∀ j, (∀ (y0 : List (T0).T) (y1 : Int) (y2 : List (T0).T) (r : R_u46), f_u46_1 k m_ f_f00 j y0 y1 y2 = some r → Ev Try.prog Try.f47 2 (placeAt Try.f47 1) (st_u46_1 m_ f_f00 y0 y1 y2) (res_u46 r) (bo_u46 m_ f_f00 r))
 | 0 => by
  intros; rename_i h; simp [f_u46_1] at h
 | j + 1 => by
  have ih := ev_u46 k m_ f_f00 j
  ·intro y0 y1 y2 r h
   rw [f_u46_1] at h
   refine Ev.tree hm (R := Rt) (K := (K_u46 k)) (l := []) (C := [(1, [.autoB [0, 1, 4] false [1]])]) (E := [.autoB [] true [1]]) (n := 1000) (T := .test ((decide (y1 ≥ (0 : Int)))) (.need [0 ≤ y1, y1 < (↑y0.length : Int)] (.need [CC Try.prog 44 (args_u42 (y0.getD y1.toNat T0.dflt) (i64.wrap ((y0.getD y1.toNat T0.dflt).2.1 - 1))) (bin_u42 (y0.getD y1.toNat T0.dflt) (i64.wrap ((y0.getD y1.toNat T0.dflt).2.1 - 1))) (res_u42 (v_u42 k (y0.getD y1.toNat T0.dflt) (i64.wrap ((y0.getD y1.toNat T0.dflt).2.1 - 1)))) (bo_u42 (y0.getD y1.toNat T0.dflt) (i64.wrap ((y0.getD y1.toNat T0.dflt).2.1 - 1)) (v_u42 k (y0.getD y1.toNat T0.dflt) (i64.wrap ((y0.getD y1.toNat T0.dflt).2.1 - 1)))), CC Try.prog 45 (args_u37 y2 (v_u42 k (y0.getD y1.toNat T0.dflt) (i64.wrap ((y0.getD y1.toNat T0.dflt).2.1 - 1)), (y0.getD y1.toNat T0.dflt).2.1, ! (y0.getD y1.toNat T0.dflt).2.2 && decide ((y0.getD y1.toNat T0.dflt).2.1 > 1))) (bin_u37 y2 (v_u42 k (y0.getD y1.toNat T0.dflt) (i64.wrap ((y0.getD y1.toNat T0.dflt).2.1 - 1)), (y0.getD y1.toNat T0.dflt).2.1, ! (y0.getD y1.toNat T0.dflt).2.2 && decide ((y0.getD y1.toNat T0.dflt).2.1 > 1))) (res_u37 (v_u37 k y2 (v_u42 k (y0.getD y1.toNat T0.dflt) (i64.wrap ((y0.getD y1.toNat T0.dflt).2.1 - 1)), (y0.getD y1.toNat T0.dflt).2.1, ! (y0.getD y1.toNat T0.dflt).2.2 && decide ((y0.getD y1.toNat T0.dflt).2.1 > 1)))) (bo_u37 y2 (v_u42 k (y0.getD y1.toNat T0.dflt) (i64.wrap ((y0.getD y1.toNat T0.dflt).2.1 - 1)), (y0.getD y1.toNat T0.dflt).2.1, ! (y0.getD y1.toNat T0.dflt).2.2 && decide ((y0.getD y1.toNat T0.dflt).2.1 > 1)) (v_u37 k y2 (v_u42 k (y0.getD y1.toNat T0.dflt) (i64.wrap ((y0.getD y1.toNat T0.dflt).2.1 - 1)), (y0.getD y1.toNat T0.dflt).2.1, ! (y0.getD y1.toNat T0.dflt).2.2 && decide ((y0.getD y1.toNat T0.dflt).2.1 > 1))))] (.cut 1 (placeAt Try.f47 1) (st_u46_1 m_ f_f00 y0 ((i64.wrap (y1 - 1))) ((v_u37 k y2 (v_u42 k (y0.getD y1.toNat T0.dflt) (i64.wrap ((y0.getD y1.toNat T0.dflt).2.1 - 1)), (y0.getD y1.toNat T0.dflt).2.1, ! (y0.getD y1.toNat T0.dflt).2.2 && decide ((y0.getD y1.toNat T0.dflt).2.1 > 1)))))))) (.leaf (res_u46 y2) (bo_u46 m_ f_f00 y2))) (by kernel_rfl) ?_
   refine ⟨fun c => ?_, fun c => ?_⟩
   ·rw [cond_t (show ((decide (y1 ≥ (0 : Int)))) = true from c)] at h
    by_cases q : (0 ≤ y1) ∧ (y1 < (↑y0.length : Int))
    ·rw [if_pos q] at h
     refine ⟨(conjC q.1 (conjC q.2 conj0)), ?_⟩
     by_cases q : ((f_u42 k (y0.getD y1.toNat T0.dflt) (i64.wrap ((y0.getD y1.toNat T0.dflt).2.1 - 1))).isSome = true) ∧ ((f_u37 k y2 (v_u42 k (y0.getD y1.toNat T0.dflt) (i64.wrap ((y0.getD y1.toNat T0.dflt).2.1 - 1)), (y0.getD y1.toNat T0.dflt).2.1, ! (y0.getD y1.toNat T0.dflt).2.2 && decide ((y0.getD y1.toNat T0.dflt).2.1 > 1))).isSome = true)
     ·rw [if_pos q] at h
      refine ⟨(conjC (cc_u42 k (y0.getD y1.toNat T0.dflt) (i64.wrap ((y0.getD y1.toNat T0.dflt).2.1 - 1)) q.1) (conjC (cc_u37 k y2 (v_u42 k (y0.getD y1.toNat T0.dflt) (i64.wrap ((y0.getD y1.toNat T0.dflt).2.1 - 1)), (y0.getD y1.toNat T0.dflt).2.1, ! (y0.getD y1.toNat T0.dflt).2.2 && decide ((y0.getD y1.toNat T0.dflt).2.1 > 1)) q.2) conj0)), ?_⟩
      exact ih y0 ((i64.wrap (y1 - 1))) ((v_u37 k y2 (v_u42 k (y0.getD y1.toNat T0.dflt) (i64.wrap ((y0.getD y1.toNat T0.dflt).2.1 - 1)), (y0.getD y1.toNat T0.dflt).2.1, ! (y0.getD y1.toNat T0.dflt).2.2 && decide ((y0.getD y1.toNat T0.dflt).2.1 > 1)))) _ h
     ·rw [if_neg q] at h; cases h
    ·rw [if_neg q] at h; cases h
   ·rw [cond_f (show ((decide (y1 ≥ (0 : Int)))) = false from c)] at h
    cases h; exact ⟨rfl, rfl⟩
theorem of_u46 (k : Nat) (m_ : List (T0).T) (f_f00 : List (T0).T) (r : R_u46) (h : f_u46 k m_ f_f00 = some r) : CC Try.prog 47 (args_u46 m_ f_f00) (bin_u46 m_ f_f00) (res_u46 r) (bo_u46 m_ f_f00 r) := by
 refine CC.of (fn := Try.f47) (by kernel_rfl) (by kernel_rfl) (by kernel_rfl) (by kernel_rfl) ?_
 unfold f_u46 at h
 refine Ev.tree hm (R := Rt) (K := (K_u46 k)) (l := []) (C := [(1, [.autoB [0, 1, 4] false [1]])]) (E := [.autoB [] true [1]]) (n := 1000) (T := .cut 1 (placeAt Try.f47 1) (st_u46_1 m_ f_f00 m_ ((i64.wrap ((↑m_.length : Int) - 1))) f_f00)) (by kernel_rfl) ?_
 exact (ev_u46 k m_ f_f00 k) m_ ((i64.wrap ((↑m_.length : Int) - 1))) f_f00 _ h
theorem cc_u46 (k : Nat) (m_ : List (T0).T) (f_f00 : List (T0).T) (h : (f_u46 k m_ f_f00).isSome = true) : CC Try.prog 47 (args_u46 m_ f_f00) (bin_u46 m_ f_f00) (res_u46 (v_u46 k m_ f_f00)) (bo_u46 m_ f_f00 (v_u46 k m_ f_f00)) := by
 cases e : f_u46 k m_ f_f00 with
 | none => rw [e] at h; cases h
 | some r => rw [show v_u46 k m_ f_f00 = r by simp [v_u46, e]]; exact of_u46 k m_ f_f00 r e

end
end Go.AM
namespace Go.AM
open Go Go.Proofs Go.IntKind
set_option linter.unusedVariables false
noncomputable section
abbrev RA_u38 : Type := Int
def resA_u38 (r : RA_u38) : AV := .tup [.r (.v (Value.slice none 0 0)), .r (.v (.int .i64 r))]
def boA_u38 (b_0 : List (T0).T) (r : RA_u38) : List (Nat × Blk) := [(0, .var 92 [.own 1 0]), (0, .row 57 T0 b_0)]
abbrev RB_u38 : Type := Int
def resB_u38 (r : RB_u38) : AV := .tup [.own 1 0, .r (.v (.int .i64 r))]
def boB_u38 (b_0 : List (T0).T) (r : RB_u38) : List (Nat × Blk) := [(0, .var 92 [.own 1 0]), (0, .row 57 T0 b_0)]
abbrev R_u38 : Type := RA_u38 ⊕ RB_u38
def res_u38 (r : R_u38) : AV := match r with
 | .inl a => resA_u38 a
 | .inr a => resB_u38 a
def bo_u38 (b_0 : List (T0).T) (r : R_u38) : List (Nat × Blk) := match r with
 | .inl a => boA_u38 b_0 a
 | .inr a => boB_u38 b_0 a
def args_u38 (b_0 : List (T0).T) : List AV := [.ptr 0 0 0]
def bin_u38 (b_0 : List (T0).T) : List Blk := [.var 92 [.own 1 0], .row 57 T0 b_0]
def f_u38 (k : Nat) (b_0 : List (T0).T) : Option R_u38 :=
 bif (decide ((↑b_0.length : Int) > (256 : Int))) then
 some ((.inl 8))
 else
 some ((.inr 0))
def v_u38 (k : Nat) (b_0 : List (T0).T) : R_u38 := (f_u38 k b_0).getD (.inl 0)
def vA_u38 (k : Nat) (b_0 : List (T0).T) : RA_u38 := lft 0 (v_u38 k b_0)
def vB_u38 (k : Nat) (b_0 : List (T0).T) : RB_u38 := rgt 0 (v_u38 k b_0)
def K_u38 (k : Nat) : Calld := ⟨fun g xs => match g with
 | _ => none, fun g xs bs => match g with
 | _ => none⟩
theorem of_u38 (k : Nat) (b_0 : List (T0).T) (r : R_u38) (h : f_u38 k b_0 = some r) : CC Try.prog 48 (args_u38 b_0) (bin_u38 b_0) (res_u38 r) (bo_u38 b_0 r) := by
 refine CC.of (fn := Try.f48) (by kernel_rfl) (by kernel_rfl) (by kernel_rfl) (by kernel_rfl) ?_
 unfold f_u38 at h
 refine Ev.tree hm (R := Rt) (K := (K_u38 k)) (l := []) (C := []) (E := [.autoB [2, 3] true []]) (n := 1000) (T := .test ((decide ((↑b_0.length : Int) > (256 : Int)))) (.leaf (resA_u38 8) (boA_u38 b_0 8)) (.leaf (resB_u38 0) (boB_u38 b_0 0))) (by kernel_rfl) ?_
 refine ⟨fun c => ?_, fun c => ?_⟩
 ·rw [cond_t (show ((decide ((↑b_0.length : Int) > (256 : Int)))) = true from c)] at h
  cases h; exact ⟨rfl, rfl⟩
 ·rw [cond_f (show ((decide ((↑b_0.length : Int) > (256 : Int)))) = false from c)] at h
  cases h; exact ⟨rfl, rfl⟩
theorem cc_u38 (k : Nat) (b_0 : List (T0).T) (h : (f_u38 k b_0).isSome = true) : CC Try.prog 48 (args_u38 b_0) (bin_u38 b_0) (res_u38 (v_u38 k b_0)) (bo_u38 b_0 (v_u38 k b_0)) := by
 cases e : f_u38 k b_0 with
 | none => rw [e] at h; cases h
 | some r => rw [show v_u38 k b_0 = r by simp [v_u38, e]]; exact of_u38 k b_0 r e
theorem ccA_u38 (k : Nat) (b_0 : List (T0).T) (h : (f_u38 k b_0).isSome = true) (hb : (v_u38 k b_0).isLeft = true) : CC Try.prog 48 (args_u38 b_0) (bin_u38 b_0) (resA_u38 (vA_u38 k b_0)) (boA_u38 b_0 (vA_u38 k b_0)) := by
 have h1 := cc_u38 k b_0 h
 unfold vA_u38
 cases e : v_u38 k b_0 with
 | inl a => rw [e] at h1 hb; exact h1
 | inr a => rw [e] at h1 hb; cases hb
theorem ccB_u38 (k : Nat) (b_0 : List (T0).T) (h : (f_u38 k b_0).isSome = true) (hb : (v_u38 k b_0).isLeft = false) : CC Try.prog 48 (args_u38 b_0) (bin_u38 b_0) (resB_u38 (vB_u38 k b_0)) (boB_u38 b_0 (vB_u38 k b_0)) := by
 have h1 := cc_u38 k b_0 h
 unfold vB_u38
 cases e : v_u38 k b_0 with
 | inl a => rw [e] at h1 hb; cases hb
 | inr a => rw [e] at h1 hb; exact h1

end
end Go.AM
namespace Go.AM
open Go Go.Proofs Go.IntKind
set_option linter.unusedVariables false
noncomputable section
abbrev R_u32 : Type := List (T0).T × Int
def res_u32 (r : R_u32) : AV := .tup [.r (.ro T0 r.1), .r (.v (.int .i64 r.2))]
def bo_u32 (inner_ : List (T0).T) (outer_ : List (T0).T) (r : R_u32) : List (Nat × Blk) := []
def args_u32 (inner_ : List (T0).T) (outer_ : List (T0).T) : List AV := [.r (.ro T0 inner_), .r (.ro T0 outer_)]
def bin_u32 (inner_ : List (T0).T) (outer_ : List (T0).T) : List Blk := []
def st_u32_9 (y0 : List (T0).T) (y1 : List (T0).T) (y2 : Int) (y3 : List (T0).T) (y4 : Int) (y5 : Int) : St := ⟨mkS 82 [(0, .r (.ro T0 y0)), (1, .r (.ro T0 y1)), (8, .r (.v (.int .i64 y2))), (27, .r (.ro T0 y3)), (28, .r (.v (.int .i64 y4))), (29, .r (.v (.int .i64 y5)))], []⟩
def st_u32_16 (y0 : List (T0).T) (y1 : List (T0).T) (y2 : Int) (y3 : Int) (y4 : List (T0).T) : St := ⟨mkS 82 [(1, .r (.ro T0 y0)), (11, .ptr 1000000 0 0), (44, .r (.ro T0 y1)), (45, .r (.v (.int .i64 y2))), (46, .r (.v (.int .i64 y3)))], [(1000000, 0, .var 92 [.own 1000001 0]), (1000001, 0, .row 57 T0 y4)]⟩
mutual
def f_u32_9 (k : Nat) : Nat → List (T0).T → List (T0).T → Int → List (T0).T → Int → Int → Option R_u32
 | 0, _, _, _, _, _, _ => none
 | j + 1, y0, y1, y2, y3, y4, y5 =>
 bif (decide (y5 < y4)) then
 if (0 ≤ y5) ∧ (y5 < (↑y3.length : Int)) then
 if ((f_u42 k (y3.getD y5.toNat T0.dflt) (i64.wrap ((y3.getD y5.toNat T0.dflt).2.1 - 1))).isSome = true) then
 bif (decide ((if v_u42 k (y3.getD y5.toNat T0.dflt) (i64.wrap ((y3.getD y5.toNat T0.dflt).2.1 - (1 : Int))) > (y3.getD y5.toNat T0.dflt).1 then v_u42 k (y3.getD y5.toNat T0.dflt) (i64.wrap ((y3.getD y5.toNat T0.dflt).2.1 - (1 : Int))) else (y3.getD y5.toNat T0.dflt).1) ≥ y2)) then
 some (([], 21))
 else
 f_u32_9 k j y0 y1 y2 y3 y4 ((i64.wrap (y5 + 1)))
 else none
 else none
 else
 f_u32_16 k j y1 y0 ((↑y0.length : Int)) 0 ([])
def f_u32_16 (k : Nat) : Nat → List (T0).T → List (T0).T → Int → Int → List (T0).T → Option R_u32
 | 0, _, _, _, _, _ => none
 | j + 1, y0, y1, y2, y3, y4 =>
 bif (decide (y3 < y2)) then
 if (0 ≤ y3) ∧ (y3 < (↑y1.length : Int)) then
 bif (! (y1.getD y3.toNat T0.dflt).2.2) then
 if ((f_u39 k y0 (y1.getD y3.toNat T0.dflt).1 (i64.wrap ((y1.getD y3.toNat T0.dflt).1 + (y1.getD y3.toNat T0.dflt).2.1)) y4).isSome = true) then
 f_u32_16 k j y0 y1 y2 ((i64.wrap (y3 + 1))) ((v_u39 k y0 (y1.getD y3.toNat T0.dflt).1 (i64.wrap ((y1.getD y3.toNat T0.dflt).1 + (y1.getD y3.toNat T0.dflt).2.1)) y4))
 else none
 else
 if ((f_u41 k y0 (i64.wrap (i64.wrap ((y1.getD y3.toNat T0.dflt).1 - (y1.getD y3.toNat T0.dflt).2.1) + 1)) (i64.wrap ((y1.getD y3.toNat T0.dflt).1 + 1)) []).isSome = true) then
 if ((f_u46 k (v_u41 k y0 (i64.wrap (i64.wrap ((y1.getD y3.toNat T0.dflt).1 - (y1.getD y3.toNat T0.dflt).2.1) + 1)) (i64.wrap ((y1.getD y3.toNat T0.dflt).1 + 1)) []) y4).isSome = true) then
 f_u32_16 k j y0 y1 y2 ((i64.wrap (y3 + 1))) ((v_u46 k (v_u41 k y0 (i64.wrap (i64.wrap ((y1.getD y3.toNat T0.dflt).1 - (y1.getD y3.toNat T0.dflt).2.1) + 1)) (i64.wrap ((y1.getD y3.toNat T0.dflt).1 + 1)) []) y4))
 else none
 else none
 else none
 else
 bif (Sum.isLeft (v_u38 k y4)) then
 if ((f_u38 k y4).isSome = true) then
 some (([], vA_u38 k y4))
 else none
 else
 if ((f_u38 k y4).isSome = true) then
 some ((y4, vB_u38 k y4))
 else none
end
def f_u32 (k : Nat) (inner_ : List (T0).T) (outer_ : List (T0).T) : Option R_u32 :=
 if ((f_u31 k inner_).isSome = true) then
 bif (v_u31 k inner_ != (0 : Int)) then
 some (([], v_u31 k inner_))
 else
 if ((f_u31 k outer_).isSome = true) then
 bif (v_u31 k outer_ != (0 : Int)) then
 some (([], v_u31 k outer_))
 else
 if ((f_u44 k outer_).isSome = true) then
 f_u32_9 k k inner_ outer_ ((v_u44 k outer_)) inner_ ((↑inner_.length : Int)) 0
 else none
 else none
 else none
def v_u32 (k : Nat) (inner_ : List (T0).T) (outer_ : List (T0).T) : R_u32 := (f_u32 k inner_ outer_).getD ([], 0)
def K_u32 (k : Nat) : Calld := ⟨fun g xs => match g with
 | 24 => match xs with
  | [_] => some [false]
  | _ => none
 | 25 => match xs with
  | [_] => some [false]
  | _ => none
 | 44 => match xs with
  | [_, _] => some [false, false]
  | _ => none
 | 45 => match xs with
  | [.ptr _ _ _, _] => some [true, false]
  | _ => none
 | 26 => match xs with
  | [_, _, _, .fn (.func 45) _ _] => some [false, false, false, true]
  | [_, _, _, .fn (.func 46) _ _] => some [false, false, false, true]
  | _ => none
 | 46 => match xs with
  | [_, .ptr _ _ _] => some [false, true]
  | _ => none
 | 47 => match xs with
  | [_, .fn (.func 45) _ _] => some [false, true]
  | _ => none
 | 48 => match xs with
  | [.ptr _ _ _] => some [true]
  | _ => none
 | _ => none, fun g xs bs => match g with
 | 24 => match xs, bs with
  | [.r (.ro tm__ qm_)], [] => (castL tm__ T0 qm_).bind fun m_ => some (.one (res_u31 (v_u31 k m_), bo_u31 m_ (v_u31 k m_)))
  | _, _ => none
 | 25 => match xs, bs with
  | [.r (.ro tm__ qm_)], [] => (castL tm__ T0 qm_).bind fun m_ => some (.one (res_u44 (v_u44 k m_), bo_u44 m_ (v_u44 k m_)))
  | _, _ => none
 | 44 => match xs, bs with
  | [.agg qr_, .r (.v (.int .i64 x_))], [] => (decS [] T0 qr_).bind fun r_ => some (.one (res_u42 (v_u42 k r_ x_), bo_u42 r_ x_ (v_u42 k r_ x_)))
  | _, _ => none
 | 45 => match xs, bs with
  | [.ptr 0 0 0, .agg qr_], [.var 92 [.own 1 0], .row 57 tb_0_ qb_0] => (decS [] T0 qr_).bind fun r_ => (castL tb_0_ T0 qb_0).bind fun b_0 => some (.one (res_u37 (v_u37 k b_0 r_), bo_u37 b_0 r_ (v_u37 k b_0 r_)))
  | _, _ => none
 | 26 => match xs, bs with
  | [.r (.ro tm__ qm_), .r (.v (.int .i64 from_)), .r (.v (.int .i64 to_)), .fn (.func 45) [.ptr 0 0 0] []], [.var 92 [.own 1 0], .row 57 tf_f00_ qf_f00] => (castL tm__ T0 qm_).bind fun m_ => (castL tf_f00_ T0 qf_f00).bind fun f_f00 => some (.one (res_u39 (v_u39 k m_ from_ to_ f_f00), bo_u39 m_ from_ to_ f_f00 (v_u39 k m_ from_ to_ f_f00)))
  | [.r (.ro tm__ qm_), .r (.v (.int .i64 from_)), .r (.v (.int .i64 to_)), .fn (.func 46) [] [.ptr 0 0 0]], [.var 36 [.own 1 0], .row 57 tf_c00_ qf_c00] => (castL tm__ T0 qm_).bind fun m_ => (castL tf_c00_ T0 qf_c00).bind fun f_c00 => some (.one (res_u41 (v_u41 k m_ from_ to_ f_c00), bo_u41 m_ from_ to_ f_c00 (v_u41 k m_ from_ to_ f_c00)))
  | _, _ => none
 | 46 => match xs, bs with
  | [.agg qp_, .ptr 0 0 0], [.var 36 [.own 1 0], .row 57 tz00_ qz00] => (decS [] T0 qp_).bind fun p_ => (castL tz00_ T0 qz00).bind fun z00 => some (.one (res_u33 (v_u33 k p_ z00), bo_u33 p_ z00 (v_u33 k p_ z00)))
  | _, _ => none
 | 47 => match xs, bs with
  | [.r (.ro tm__ qm_), .fn (.func 45) [.ptr 0 0 0] []], [.var 92 [.own 1 0], .row 57 tf_f00_ qf_f00] => (castL tm__ T0 qm_).bind fun m_ => (castL tf_f00_ T0 qf_f00).bind fun f_f00 => some (.one (res_u46 (v_u46 k m_ f_f00), bo_u46 m_ f_f00 (v_u46 k m_ f_f00)))
  | _, _ => none
 | 48 => match xs, bs with
  | [.ptr 0 0 0], [.var 92 [.own 1 0], .row 57 tb_0_ qb_0] => (castL tb_0_ T0 qb_0).bind fun b_0 => some (.two (v_u38 k b_0).isLeft (resA_u38 (vA_u38 k b_0), boA_u38 b_0 (vA_u38 k b_0)) (resB_u38 (vB_u38 k b_0), boB_u38 b_0 (vB_u38 k b_0)))
  | _, _ => none
 | _ => none⟩
theorem ev_u32 (k : Nat) (inner_ : List (T0).T) (outer_ : List (T0).T) : ∀ j, (∀ (y0 : List (T0).T) (y1 : List (T0).T) (y2 : Int) (y3 : List (T0).T) (y4 : Int) (y5 : Int) (r : R_u32), f_u32_9 k j y0 y1 y2 y3 y4 y5 = some r → Ev Try.prog Try.f37 0 (placeAt Try.f37 9) (st_u32_9 y0 y1 y2 y3 y4 y5) (res_u32 r) (bo_u32 inner_ outer_ r)) ∧ (∀ (y0 : List (T0).T) (y1 : List (T0).T) (y2 : Int) (y3 : Int) (y4 : List (T0).T) (r : R_u32), f_u32_16 k j y0 y1 y2 y3 y4 = some r → Ev Try.prog Try.f37 0 (placeAt Try.f37 16) (st_u32_16 y0 y1 y2 y3 y4) (res_u32 r) (bo_u32 inner_ outer_ r))
 | 0 => by
  refine ⟨?_, ?_⟩ <;> intros <;> rename_i h <;> simp [f_u32_9, f_u32_16] at h
 | j + 1 => by
  have ih := ev_u32 k inner_ outer_ j
  refine ⟨?_, ?_⟩
  ·intro y0 y1 y2 y3 y4 y5 r h
   rw [f_u32_9] at h
   refine Ev.tree hm (R := Rt) (K := (K_u32 k)) (l := []) (C := [(9, [.autoB [0, 1, 8, 27, 28, 29] false []]), (16, [.autoB [1, 11, 44, 45, 46] false []])]) (E := [.frz 4 false (RTy.list T0), .autoB [4, 5] true []]) (n := 1000) (T := .test ((decide (y5 < y4))) (.need [0 ≤ y5, y5 < (↑y3.length : Int)] (.need [CC Try.prog 44 (args_u42 (y3.getD y5.toNat T0.dflt) (i64.wrap ((y3.getD y5.toNat T0.dflt).2.1 - 1))) (bin_u42 (y3.getD y5.toNat T0.dflt) (i64.wrap ((y3.getD y5.toNat T0.dflt).2.1 - 1))) (res_u42 (v_u42 k (y3.getD y5.toNat T0.dflt) (i64.wrap ((y3.getD y5.toNat T0.dflt).2.1 - 1)))) (bo_u42 (y3.getD y5.toNat T0.dflt) (i64.wrap ((y3.getD y5.toNat T0.dflt).2.1 - 1)) (v_u42 k (y3.getD y5.toNat T0.dflt) (i64.wrap ((y3.getD y5.toNat T0.dflt).2.1 - 1))))] (.test ((decide ((if v_u42 k (y3.getD y5.toNat T0.dflt) (i64.wrap ((y3.getD y5.toNat T0.dflt).2.1 - (1 : Int))) > (y3.getD y5.toNat T0.dflt).1 then v_u42 k (y3.getD y5.toNat T0.dflt) (i64.wrap ((y3.getD y5.toNat T0.dflt).2.1 - (1 : Int))) else (y3.getD y5.toNat T0.dflt).1) ≥ y2))) (.leaf (res_u32 (([], 21))) (bo_u32 inner_ outer_ (([], 21)))) (.cut 9 (placeAt Try.f37 9) (st_u32_9 y0 y1 y2 y3 y4 ((i64.wrap (y5 + 1)))))))) (.cut 16 (placeAt Try.f37 16) (st_u32_16 y1 y0 ((↑y0.length : Int)) 0 ([])))) (by kernel_rfl) ?_
   refine ⟨fun c => ?_, fun c => ?_⟩
   ·rw [cond_t (show ((decide (y5 < y4))) = true from c)] at h
    by_cases q : (0 ≤ y5) ∧ (y5 < (↑y3.length : Int))
    ·rw [if_pos q] at h
     refine ⟨(conjC q.1 (conjC q.2 conj0)), ?_⟩
     by_cases q : ((f_u42 k (y3.getD y5.toNat T0.dflt) (i64.wrap ((y3.getD y5.toNat T0.dflt).2.1 - 1))).isSome = true)
     ·rw [if_pos q] at h
      refine ⟨(conjC (cc_u42 k (y3.getD y5.toNat T0.dflt) (i64.wrap ((y3.getD y5.toNat T0.dflt).2.1 - 1)) q) conj0), ?_⟩
      refine ⟨fun c => ?_, fun c => ?_⟩
      ·rw [cond_t (show ((decide ((if v_u42 k (y3.getD y5.toNat T0.dflt) (i64.wrap ((y3.getD y5.toNat T0.dflt).2.1 - (1 : Int))) > (y3.getD y5.toNat T0.dflt).1 then v_u42 k (y3.getD y5.toNat T0.dflt) (i64.wrap ((y3.getD y5.toNat T0.dflt).2.1 - (1 : Int))) else (y3.getD y5.toNat T0.dflt).1) ≥ y2))) = true from c)] at h
       cases h; exact ⟨rfl, rfl⟩
      ·rw [cond_f (show ((decide ((if v_u42 k (y3.getD y5.toNat T0.dflt) (i64.wrap ((y3.getD y5.toNat T0.dflt).2.1 - (1 : Int))) > (y3.getD y5.toNat T0.dflt).1 then v_u42 k (y3.getD y5.toNat T0.dflt) (i64.wrap ((y3.getD y5.toNat T0.dflt).2.1 - (1 : Int))) else (y3.getD y5.toNat T0.dflt).1) ≥ y2))) = false from c)] at h
       exact ih.1 y0 y1 y2 y3 y4 ((i64.wrap (y5 + 1))) _ h
     ·rw [if_neg q] at h; cases h
    ·rw [if_neg q] at h; cases h
   ·rw [cond_f (show ((decide (y5 < y4))) = false from c)] at h
    exact ih.2 y1 y0 ((↑y0.length : Int)) 0 ([]) _ h
  ·intro y0 y1 y2 y3 y4 r h
   rw [f_u32_16] at h
   refine Ev.tree hm (R := Rt) (K := (K_u32 k)) (l := []) (C := [(9, [.autoB [0, 1, 8, 27, 28, 29] false []]), (16, [.autoB [1, 11, 44, 45, 46] false []])]) (E := [.frz 4 false (RTy.list T0), .autoB [4, 5] true []]) (n := 1000) (T := .test ((decide (y3 < y2))) (.need [0 ≤ y3, y3 < (↑y1.length : Int)] (.test ((! (y1.getD y3.toNat T0.dflt).2.2)) (.need [CC Try.prog 26 (args_u39 y0 (y1.getD y3.toNat T0.dflt).1 (i64.wrap ((y1.getD y3.toNat T0.dflt).1 + (y1.getD y3.toNat T0.dflt).2.1)) y4) (bin_u39 y0 (y1.getD y3.toNat T0.dflt).1 (i64.wrap ((y1.getD y3.toNat T0.dflt).1 + (y1.getD y3.toNat T0.dflt).2.1)) y4) (res_u39 (v_u39 k y0 (y1.getD y3.toNat T0.dflt).1 (i64.wrap ((y1.getD y3.toNat T0.dflt).1 + (y1.getD y3.toNat T0.dflt).2.1)) y4)) (bo_u39 y0 (y1.getD y3.toNat T0.dflt).1 (i64.wrap ((y1.getD y3.toNat T0.dflt).1 + (y1.getD y3.toNat T0.dflt).2.1)) y4 (v_u39 k y0 (y1.getD y3.toNat T0.dflt).1 (i64.wrap ((y1.getD y3.toNat T0.dflt).1 + (y1.getD y3.toNat T0.dflt).2.1)) y4))] (.cut 16 (placeAt Try.f37 16) (st_u32_16 y0 y1 y2 ((i64.wrap (y3 + 1))) ((v_u39 k y0 (y1.getD y3.toNat T0.dflt).1 (i64.wrap ((y1.getD y3.toNat T0.dflt).1 + (y1.getD y3.toNat T0.dflt).2.1)) y4))))) (.need [CC Try.prog 26 (args_u41 y0 (i64.wrap (i64.wrap ((y1.getD y3.toNat T0.dflt).1 - (y1.getD y3.toNat T0.dflt).2.1) + 1)) (i64.wrap ((y1.getD y3.toNat T0.dflt).1 + 1)) []) (bin_u41 y0 (i64.wrap (i64.wrap ((y1.getD y3.toNat T0.dflt).1 - (y1.getD y3.toNat T0.dflt).2.1) + 1)) (i64.wrap ((y1.getD y3.toNat T0.dflt).1 + 1)) []) (res_u41 (v_u41 k y0 (i64.wrap (i64.wrap ((y1.getD y3.toNat T0.dflt).1 - (y1.getD y3.toNat T0.dflt).2.1) + 1)) (i64.wrap ((y1.getD y3.toNat T0.dflt).1 + 1)) [])) (bo_u41 y0 (i64.wrap (i64.wrap ((y1.getD y3.toNat T0.dflt).1 - (y1.getD y3.toNat T0.dflt).2.1) + 1)) (i64.wrap ((y1.getD y3.toNat T0.dflt).1 + 1)) [] (v_u41 k y0 (i64.wrap (i64.wrap ((y1.getD y3.toNat T0.dflt).1 - (y1.getD y3.toNat T0.dflt).2.1) + 1)) (i64.wrap ((y1.getD y3.toNat T0.dflt).1 + 1)) []))] (.need [CC Try.prog 47 (args_u46 (v_u41 k y0 (i64.wrap (i64.wrap ((y1.getD y3.toNat T0.dflt).1 - (y1.getD y3.toNat T0.dflt).2.1) + 1)) (i64.wrap ((y1.getD y3.toNat T0.dflt).1 + 1)) []) y4) (bin_u46 (v_u41 k y0 (i64.wrap (i64.wrap ((y1.getD y3.toNat T0.dflt).1 - (y1.getD y3.toNat T0.dflt).2.1) + 1)) (i64.wrap ((y1.getD y3.toNat T0.dflt).1 + 1)) []) y4) (res_u46 (v_u46 k (v_u41 k y0 (i64.wrap (i64.wrap ((y1.getD y3.toNat T0.dflt).1 - (y1.getD y3.toNat T0.dflt).2.1) + 1)) (i64.wrap ((y1.getD y3.toNat T0.dflt).1 + 1)) []) y4)) (bo_u46 (v_u41 k y0 (i64.wrap (i64.wrap ((y1.getD y3.toNat T0.dflt).1 - (y1.getD y3.toNat T0.dflt).2.1) + 1)) (i64.wrap ((y1.getD y3.toNat T0.dflt).1 + 1)) []) y4 (v_u46 k (v_u41 k y0 (i64.wrap (i64.wrap ((y1.getD y3.toNat T0.dflt).1 - (y1.getD y3.toNat T0.dflt).2.1) + 1)) (i64.wrap ((y1.getD y3.toNat T0.dflt).1 + 1)) []) y4))] (.cut 16 (placeAt Try.f37 16) (st_u32_16 y0 y1 y2 ((i64.wrap (y3 + 1))) ((v_u46 k (v_u41 k y0 (i64.wrap (i64.wrap ((y1.getD y3.toNat T0.dflt).1 - (y1.getD y3.toNat T0.dflt).2.1) + 1)) (i64.wrap ((y1.getD y3.toNat T0.dflt).1 + 1)) []) y4)))))))) (.test ((Sum.isLeft (v_u38 k y4))) (.need [CC Try.prog 48 (args_u38 y4) (bin_u38 y4) (resA_u38 (vA_u38 k y4)) (boA_u38 y4 (vA_u38 k y4))] (.leaf (res_u32 (([], vA_u38 k y4))) (bo_u32 inner_ outer_ (([], vA_u38 k y4))))) (.need [CC Try.prog 48 (args_u38 y4) (bin_u38 y4) (resB_u38 (vB_u38 k y4)) (boB_u38 y4 (vB_u38 k y4))] (.leaf (res_u32 ((y4, vB_u38 k y4))) (bo_u32 inner_ outer_ ((y4, vB_u38 k y4))))))) (by kernel_rfl) ?_
   refine ⟨fun c => ?_, fun c => ?_⟩
   ·rw [cond_t (show ((decide (y3 < y2))) = true from c)] at h
    by_cases q : (0 ≤ y3) ∧ (y3 < (↑y1.length : Int))
    ·rw [if_pos q] at h
     refine ⟨(conjC q.1 (conjC q.2 conj0)), ?_⟩
     refine ⟨fun c => ?_, fun c => ?_⟩
     ·rw [cond_t (show ((! (y1.getD y3.toNat T0.dflt).2.2)) = true from c)] at h
      by_cases q : ((f_u39 k y0 (y1.getD y3.toNat T0.dflt).1 (i64.wrap ((y1.getD y3.toNat T0.dflt).1 + (y1.getD y3.toNat T0.dflt).2.1)) y4).isSome = true)
      ·rw [if_pos q] at h
       refine ⟨(conjC (cc_u39 k y0 (y1.getD y3.toNat T0.dflt).1 (i64.wrap ((y1.getD y3.toNat T0.dflt).1 + (y1.getD y3.toNat T0.dflt).2.1)) y4 q) conj0), ?_⟩
       exact ih.2 y0 y1 y2 ((i64.wrap (y3 + 1))) ((v_u39 k y0 (y1.getD y3.toNat T0.dflt).1 (i64.wrap ((y1.getD y3.toNat T0.dflt).1 + (y1.getD y3.toNat T0.dflt).2.1)) y4)) _ h
      ·rw [if_neg q] at h; cases h
     ·rw [cond_f (show ((! (y1.getD y3.toNat T0.dflt).2.2)) = false from c)] at h
      by_cases q : ((f_u41 k y0 (i64.wrap (i64.wrap ((y1.getD y3.toNat T0.dflt).1 - (y1.getD y3.toNat T0.dflt).2.1) + 1)) (i64.wrap ((y1.getD y3.toNat T0.dflt).1 + 1)) []).isSome = true)
      ·rw [if_pos q] at h
       refine ⟨(conjC (cc_u41 k y0 (i64.wrap (i64.wrap ((y1.getD y3.toNat T0.dflt).1 - (y1.getD y3.toNat T0.dflt).2.1) + 1)) (i64.wrap ((y1.getD y3.toNat T0.dflt).1 + 1)) [] q) conj0), ?_⟩
       by_cases q : ((f_u46 k (v_u41 k y0 (i64.wrap (i64.wrap ((y1.getD y3.toNat T0.dflt).1 - (y1.getD y3.toNat T0.dflt).2.1) + 1)) (i64.wrap ((y1.getD y3.toNat T0.dflt).1 + 1)) []) y4).isSome = true)
       ·rw [if_pos q] at h
        refine ⟨(conjC (cc_u46 k (v_u41 k y0 (i64.wrap (i64.wrap ((y1.getD y3.toNat T0.dflt).1 - (y1.getD y3.toNat T0.dflt).2.1) + 1)) (i64.wrap ((y1.getD y3.toNat T0.dflt).1 + 1)) []) y4 q) conj0), ?_⟩
        exact ih.2 y0 y1 y2 ((i64.wrap (y3 + 1))) ((v_u46 k (v_u41 k y0 (i64.wrap (i64.wrap ((y1.getD y3.toNat T0.dflt).1 - (y1.getD y3.toNat T0.dflt).2.1) + 1)) (i64.wrap ((y1.getD y3.toNat T0.dflt).1 + 1)) []) y4)) _ h
       ·rw [if_neg q] at h; cases h
      ·rw [if_neg q] at h; cases h
    ·rw [if_neg q] at h; cases h
   ·rw [cond_f (show ((decide (y3 < y2))) = false from c)] at h
    refine ⟨fun c => ?_, fun c => ?_⟩
    ·rw [cond_t (show ((Sum.isLeft (v_u38 k y4))) = true from c)] at h
     by_cases q : ((f_u38 k y4).isSome = true)
     ·rw [if_pos q] at h
      refine ⟨(conjC (ccA_u38 k y4 q (by assumption)) conj0), ?_⟩
      cases h; exact ⟨rfl, rfl⟩
     ·rw [if_neg q] at h; cases h
    ·rw [cond_f (show ((Sum.isLeft (v_u38 k y4))) = false from c)] at h
     by_cases q : ((f_u38 k y4).isSome = true)
     ·rw [if_pos q] at h
      refine ⟨(conjC (ccB_u38 k y4 q (by assumption)) conj0), ?_⟩
      cases h; exact ⟨rfl, rfl⟩
     ·rw [if_neg q] at h; cases h
theorem of_u32 (k : Nat) (inner_ : List (T0).T) (outer_ : List (T0).T) (r : R_u32) (h : f_u32 k inner_ outer_ = some r) : CC Try.prog 37 (args_u32 inner_ outer_) (bin_u32 inner_ outer_) (res_u32 r) (bo_u32 inner_ outer_ r) := by
 refine CC.of (fn := Try.f37) (by kernel_rfl) (by kernel_rfl) (by kernel_rfl) (by kernel_rfl) ?_
 unfold f_u32 at h
 refine Ev.tree hm (R := Rt) (K := (K_u32 k)) (l := []) (C := [(9, [.autoB [0, 1, 8, 27, 28, 29] false []]), (16, [.autoB [1, 11, 44, 45, 46] false []])]) (E := [.frz 4 false (RTy.list T0), .autoB [4, 5] true []]) (n := 1000) (T := .need [CC Try.prog 24 (args_u31 inner_) (bin_u31 inner_) (res_u31 (v_u31 k inner_)) (bo_u31 inner_ (v_u31 k inner_))] (.test ((v_u31 k inner_ != (0 : Int))) (.leaf (res_u32 (([], v_u31 k inner_))) (bo_u32 inner_ outer_ (([], v_u31 k inner_)))) (.need [CC Try.prog 24 (args_u31 outer_) (bin_u31 outer_) (res_u31 (v_u31 k outer_)) (bo_u31 outer_ (v_u31 k outer_))] (.test ((v_u31 k outer_ != (0 : Int))) (.leaf (res_u32 (([], v_u31 k outer_))) (bo_u32 inner_ outer_ (([], v_u31 k outer_)))) (.need [CC Try.prog 25 (args_u44 outer_) (bin_u44 outer_) (res_u44 (v_u44 k outer_)) (bo_u44 outer_ (v_u44 k outer_))] (.cut 9 (placeAt Try.f37 9) (st_u32_9 inner_ outer_ ((v_u44 k outer_)) inner_ ((↑inner_.length : Int)) 0))))))) (by kernel_rfl) ?_
 by_cases q : ((f_u31 k inner_).isSome = true)
 ·rw [if_pos q] at h
  refine ⟨(conjC (cc_u31 k inner_ q) conj0), ?_⟩
  refine ⟨fun c => ?_, fun c => ?_⟩
  ·rw [cond_t (show ((v_u31 k inner_ != (0 : Int))) = true from c)] at h
   cases h; exact ⟨rfl, rfl⟩
  ·rw [cond_f (show ((v_u31 k inner_ != (0 : Int))) = false from c)] at h
   by_cases q : ((f_u31 k outer_).isSome = true)
   ·rw [if_pos q] at h
    refine ⟨(conjC (cc_u31 k outer_ q) conj0), ?_⟩
    refine ⟨fun c => ?_, fun c => ?_⟩
    ·rw [cond_t (show ((v_u31 k outer_ != (0 : Int))) = true from c)] at h
     cases h; exact ⟨rfl, rfl⟩
    ·rw [cond_f (show ((v_u31 k outer_ != (0 : Int))) = false from c)] at h
     by_cases q : ((f_u44 k outer_).isSome = true)
     ·rw [if_pos q] at h
      refine ⟨(conjC (cc_u44 k outer_ q) conj0), ?_⟩
      exact (ev_u32 k inner_ outer_ k).1 inner_ outer_ ((v_u44 k outer_)) inner_ ((↑inner_.length : Int)) 0 _ h
     ·rw [if_neg q] at h; cases h
   ·rw [if_neg q] at h; cases h
 ·rw [if_neg q] at h; cases h
theorem cc_u32 (k : Nat) (inner_ : List (T0).T) (outer_ : List (T0).T) (h : (f_u32 k inner_ outer_).isSome = true) : CC Try.prog 37 (args_u32 inner_ outer_) (bin_u32 inner_ outer_) (res_u32 (v_u32 k inner_ outer_)) (bo_u32 inner_ outer_ (v_u32 k inner_ outer_)) := by
 cases e : f_u32 k inner_ outer_ with
 | none => rw [e] at h; cases h
 | some r => rw [show v_u32 k inner_ outer_ = r by simp [v_u32, e]]; exact of_u32 k inner_ outer_ r e

end
end Go.AM
namespace Go.AM
open Go Go.Proofs Go.IntKind
set_option linter.unusedVariables false
noncomputable section
abbrev R_u30 : Type := Int
def res_u30 (r : R_u30) : AV := .tup []
def bo_u30 (r_ : T0.T) (z00 : Int) (r : R_u30) : List (Nat × Blk) := [(0, .var 3 [.r (.v (.int .i64 r))])]
def args_u30 (r_ : T0.T) (z00 : Int) : List AV := [.agg (rvs (enc T0 r_)), .ptr 0 0 0]
def bin_u30 (r_ : T0.T) (z00 : Int) : List Blk := [.var 3 [.r (.v (.int .i64 z00))]]
def f_u30 (k : Nat) (r_ : T0.T) (z00 : Int) : Option R_u30 :=
 some r_.1
def v_u30 (k : Nat) (r_ : T0.T) (z00 : Int) : R_u30 := (f_u30 k r_ z00).getD 0
def K_u30 (k : Nat) : Calld := ⟨fun g xs => match g with
 | _ => none, fun g xs bs => match g with
 | _ => none⟩
theorem of_u30 (k : Nat) (r_ : T0.T) (z00 : Int) (r : R_u30) (h : f_u30 k r_ z00 = some r) : CC Try.prog 27 (args_u30 r_ z00) (bin_u30 r_ z00) (res_u30 r) (bo_u30 r_ z00 r) := by
 refine CC.of (fn := Try.f27) (by kernel_rfl) (by kernel_rfl) (by kernel_rfl) (by kernel_rfl) ?_
 unfold f_u30 at h
 refine Ev.tree hm (R := Rt) (K := (K_u30 k)) (l := []) (C := []) (E := [.autoB [] true []]) (n := 1000) (T := .leaf (res_u30 r_.1) (bo_u30 r_ z00 r_.1)) (by kernel_rfl) ?_
 cases h; exact ⟨rfl, rfl⟩
theorem cc_u30 (k : Nat) (r_ : T0.T) (z00 : Int) (h : (f_u30 k r_ z00).isSome = true) : CC Try.prog 27 (args_u30 r_ z00) (bin_u30 r_ z00) (res_u30 (v_u30 k r_ z00)) (bo_u30 r_ z00 (v_u30 k r_ z00)) := by
 cases e : f_u30 k r_ z00 with
 | none => rw [e] at h; cases h
 | some r => rw [show v_u30 k r_ z00 = r by simp [v_u30, e]]; exact of_u30 k r_ z00 r e

end
end Go.AM
namespace Go.AM
open Go Go.Proofs Go.IntKind
set_option linter.unusedVariables false
noncomputable section
abbrev R_u40 : Type := Int
def res_u40 (r : R_u40) : AV := .tup []
def bo_u40 (m_ : List (T0).T) (from_ : Int) (to_ : Int) (f_c00 : Int) (r : R_u40) : List (Nat × Blk) := [(0, .var 3 [.r (.v (.int .i64 r))])]
def args_u40 (m_ : List (T0).T) (from_ : Int) (to_ : Int) (f_c00 : Int) : List AV := [.r (.ro T0 m_), .r (.v (.int .i64 from_)), .r (.v (.int .i64 to_)), .fn (.func 27) [] [.ptr 0 0 0]]
def bin_u40 (m_ : List (T0).T) (from_ : Int) (to_ : Int) (f_c00 : Int) : List Blk := [.var 3 [.r (.v (.int .i64 f_c00))]]
def st_u40_2 (m_ : List (T0).T) (from_ : Int) (to_ : Int) (f_c00 : Int) (y0 : Int) (y1 : Int) (y2 : Int) (y3 : List (T0).T) (y4 : Int) (y5 : Int) (y6 : Int) : St := ⟨mkS 46 [(1, .r (.v (.int .i64 y0))), (2, .r (.v (.int .i64 y1))), (3, .fn ((Fn.func 27)) [] [.ptr 0 0 0]), (8, .r (.v (.int .i64 y2))), (13, .r (.ro T0 y3)), (14, .r (.v (.int .i64 y4))), (15, .r (.v (.int .i64 y5)))], [(0, 0, .var 3 [.r (.v (.int .i64 y6))])]⟩
def f_u40_2 (k : Nat) (m_ : List (T0).T) (from_ : Int) (to_ : Int) (f_c00 : Int) : Nat → Int → Int → Int → List (T0).T → Int → Int → Int → Option R_u40
 | 0, _, _, _, _, _, _, _ => none
 | j + 1, y0, y1, y2, y3, y4, y5, y6 =>
 bif (decide (y5 < y4)) then
 if (0 ≤ y5) ∧ (y5 < (↑y3.length : Int)) then
 bif (decide ((if y2 > y0 then y2 else y0) < if i64.wrap (y2 + (y3.getD y5.toNat T0.dflt).2.1) < y1 then i64.wrap (y2 + (y3.getD y5.toNat T0.dflt).2.1) else y1)) then
 if ((f_u45 k (y3.getD y5.toNat T0.dflt) (i64.wrap ((if y2 > y0 then y2 else y0) - y2)) (i64.wrap ((if i64.wrap (y2 + (y3.getD y5.toNat T0.dflt).2.1) < y1 then i64.wrap (y2 + (y3.getD y5.toNat T0.dflt).2.1) else y1) - if y2 > y0 then y2 else y0))).isSome = true) ∧ ((f_u30 k (v_u45 k (y3.getD y5.toNat T0.dflt) (i64.wrap ((if y2 > y0 then y2 else y0) - y2)) (i64.wrap ((if i64.wrap (y2 + (y3.getD y5.toNat T0.dflt).2.1) < y1 then i64.wrap (y2 + (y3.getD y5.toNat T0.dflt).2.1) else y1) - if y2 > y0 then y2 else y0))) y6).isSome = true) then
 f_u40_2 k m_ from_ to_ f_c00 j y0 y1 ((i64.wrap (y2 + (y3.getD y5.toNat T0.dflt).2.1))) y3 y4 ((i64.wrap (y5 + 1))) ((v_u30 k (v_u45 k (y3.getD y5.toNat T0.dflt) (i64.wrap ((if y2 > y0 then y2 else y0) - y2)) (i64.wrap ((if i64.wrap (y2 + (y3.getD y5.toNat T0.dflt).2.1) < y1 then i64.wrap (y2 + (y3.getD y5.toNat T0.dflt).2.1) else y1) - if y2 > y0 then y2 else y0))) y6))
 else none
 else
 f_u40_2 k m_ from_ to_ f_c00 j y0 y1 ((i64.wrap (y2 + (y3.getD y5.toNat T0.dflt).2.1))) y3 y4 ((i64.wrap (y5 + 1))) y6
 else none
 else
 some y6
def f_u40 (k : Nat) (m_ : List (T0).T) (from_ : Int) (to_ : Int) (f_c00 : Int) : Option R_u40 :=
 f_u40_2 k m_ from_ to_ f_c00 k from_ to_ 0 m_ ((↑m_.length : Int)) 0 f_c00
def v_u40 (k : Nat) (m_ : List (T0).T) (from_ : Int) (to_ : Int) (f_c00 : Int) : R_u40 := (f_u40 k m_ from_ to_ f_c00).getD 0
def K_u40 (k : Nat) : Calld := ⟨fun g xs => match g with
 | 38 => match xs with
  | [_, _, _] => some [false, false, false]
  | _ => none
 | 27 => match xs with
  | [_, .ptr _ _ _] => some [false, true]
  | _ => none
 | _ => none, fun g xs bs => match g with
 | 38 => match xs, bs with
  | [.agg qr_, .r (.v (.int .i64 x_)), .r (.v (.int .i64 n_))], [] => (decS [] T0 qr_).bind fun r_ => some (.one (res_u45 (v_u45 k r_ x_ n_), bo_u45 r_ x_ n_ (v_u45 k r_ x_ n_)))
  | _, _ => none
 | 27 => match xs, bs with
  | [.agg qr_, .ptr 0 0 0], [.var 3 [.r (.v (.int .i64 z00))]] => (decS [] T0 qr_).bind fun r_ => some (.one (res_u30 (v_u30 k r_ z00), bo_u30 r_ z00 (v_u30 k r_ z00)))
  | _, _ => none
 | _ => none⟩
theorem ev_u40 (k : Nat) (m_ : List (T0).T) (from_ : Int) (to_ : Int) (f_c00 : Int) : ∀ j, (∀ (y0 : Int) (y1 : Int) (y2 : Int) (y3 : List (T0).T) (y4 : Int) (y5 : Int) (y6 : Int) (r : R_u40), f_u40_2 k m_ from_ to_ f_c00 j y0 y1 y2 y3 y4 y5 y6 = some r → Ev Try.prog Try.f26 1 (placeAt Try.f26 2) (st_u40_2 m_ from_ to_ f_c00 y0 y1 y2 y3 y4 y5 y6) (res_u40 r) (bo_u40 m_ from_ to_ f_c00 r))
 | 0 => by
  intros; rename_i h; simp [f_u40_2] at h
 | j + 1 => by
  have ih := ev_u40 k m_ from_ to_ f_c00 j
  ·intro y0 y1 y2 y3 y4 y5 y6 r h
   rw [f_u40_2] at h
   refine Ev.tree hm (R := Rt) (K := (K_u40 k)) (l := []) (C := [(2, [.autoB [1, 2, 3, 8, 13, 14, 15] false []])]) (E := [.autoB [] true []]) (n := 1000) (T := .test ((decide (y5 < y4))) (.need [0 ≤ y5, y5 < (↑y3.length : Int)] (.test ((decide ((if y2 > y0 then y2 else y0) < if i64.wrap (y2 + (y3.getD y5.toNat T0.dflt).2.1) < y1 then i64.wrap (y2 + (y3.getD y5.toNat T0.dflt).2.1) else y1))) (.need [CC Try.prog 38 (args_u45 (y3.getD y5.toNat T0.dflt) (i64.wrap ((if y2 > y0 then y2 else y0) - y2)) (i64.wrap ((if i64.wrap (y2 + (y3.getD y5.toNat T0.dflt).2.1) < y1 then i64.wrap (y2 + (y3.getD y5.toNat T0.dflt).2.1) else y1) - if y2 > y0 then y2 else y0))) (bin_u45 (y3.getD y5.toNat T0.dflt) (i64.wrap ((if y2 > y0 then y2 else y0) - y2)) (i64.wrap ((if i64.wrap (y2 + (y3.getD y5.toNat T0.dflt).2.1) < y1 then i64.wrap (y2 + (y3.getD y5.toNat T0.dflt).2.1) else y1) - if y2 > y0 then y2 else y0))) (res_u45 (v_u45 k (y3.getD y5.toNat T0.dflt) (i64.wrap ((if y2 > y0 then y2 else y0) - y2)) (i64.wrap ((if i64.wrap (y2 + (y3.getD y5.toNat T0.dflt).2.1) < y1 then i64.wrap (y2 + (y3.getD y5.toNat T0.dflt).2.1) else y1) - if y2 > y0 then y2 else y0)))) (bo_u45 (y3.getD y5.toNat T0.dflt) (i64.wrap ((if y2 > y0 then y2 else y0) - y2)) (i64.wrap ((if i64.wrap (y2 + (y3.getD y5.toNat T0.dflt).2.1) < y1 then i64.wrap (y2 + (y3.getD y5.toNat T0.dflt).2.1) else y1) - if y2 > y0 then y2 else y0)) (v_u45 k (y3.getD y5.toNat T0.dflt) (i64.wrap ((if y2 > y0 then y2 else y0) - y2)) (i64.wrap ((if i64.wrap (y2 + (y3.getD y5.toNat T0.dflt).2.1) < y1 then i64.wrap (y2 + (y3.getD y5.toNat T0.dflt).2.1) else y1) - if y2 > y0 then y2 else y0)))), CC Try.prog 27 (args_u30 (v_u45 k (y3.getD y5.toNat T0.dflt) (i64.wrap ((if y2 > y0 then y2 else y0) - y2)) (i64.wrap ((if i64.wrap (y2 + (y3.getD y5.toNat T0.dflt).2.1) < y1 then i64.wrap (y2 + (y3.getD y5.toNat T0.dflt).2.1) else y1) - if y2 > y0 then y2 else y0))) y6) (bin_u30 (v_u45 k (y3.getD y5.toNat T0.dflt) (i64.wrap ((if y2 > y0 then y2 else y0) - y2)) (i64.wrap ((if i64.wrap (y2 + (y3.getD y5.toNat T0.dflt).2.1) < y1 then i64.wrap (y2 + (y3.getD y5.toNat T0.dflt).2.1) else y1) - if y2 > y0 then y2 else y0))) y6) (res_u30 (v_u30 k (v_u45 k (y3.getD y5.toNat T0.dflt) (i64.wrap ((if y2 > y0 then y2 else y0) - y2)) (i64.wrap ((if i64.wrap (y2 + (y3.getD y5.toNat T0.dflt).2.1) < y1 then i64.wrap (y2 + (y3.getD y5.toNat T0.dflt).2.1) else y1) - if y2 > y0 then y2 else y0))) y6)) (bo_u30 (v_u45 k (y3.getD y5.toNat T0.dflt) (i64.wrap ((if y2 > y0 then y2 else y0) - y2)) (i64.wrap ((if i64.wrap (y2 + (y3.getD y5.toNat T0.dflt).2.1) < y1 then i64.wrap (y2 + (y3.getD y5.toNat T0.dflt).2.1) else y1) - if y2 > y0 then y2 else y0))) y6 (v_u30 k (v_u45 k (y3.getD y5.toNat T0.dflt) (i64.wrap ((if y2 > y0 then y2 else y0) - y2)) (i64.wrap ((if i64.wrap (y2 + (y3.getD y5.toNat T0.dflt).2.1) < y1 then i64.wrap (y2 + (y3.getD y5.toNat T0.dflt).2.1) else y1) - if y2 > y0 then y2 else y0))) y6))] (.cut 2 (placeAt Try.f26 2) (st_u40_2 m_ from_ to_ f_c00 y0 y1 ((i64.wrap (y2 + (y3.getD y5.toNat T0.dflt).2.1))) y3 y4 ((i64.wrap (y5 + 1))) ((v_u30 k (v_u45 k (y3.getD y5.toNat T0.dflt) (i64.wrap ((if y2 > y0 then y2 else y0) - y2)) (i64.wrap ((if i64.wrap (y2 + (y3.getD y5.toNat T0.dflt).2.1) < y1 then i64.wrap (y2 + (y3.getD y5.toNat T0.dflt).2.1) else y1) - if y2 > y0 then y2 else y0))) y6))))) (.cut 2 (placeAt Try.f26 2) (st_u40_2 m_ from_ to_ f_c00 y0 y1 ((i64.wrap (y2 + (y3.getD y5.toNat T0.dflt).2.1))) y3 y4 ((i64.wrap (y5 + 1))) y6)))) (.leaf (res_u40 y6) (bo_u40 m_ from_ to_ f_c00 y6))) (by kernel_rfl) ?_
   refine ⟨fun c => ?_, fun c => ?_⟩
   ·rw [cond_t (show ((decide (y5 < y4))) = true from c)] at h
    by_cases q : (0 ≤ y5) ∧ (y5 < (↑y3.length : Int))
    ·rw [if_pos q] at h
     refine ⟨(conjC q.1 (conjC q.2 conj0)), ?_⟩
     refine ⟨fun c => ?_, fun c => ?_⟩
     ·rw [cond_t (show ((decide ((if y2 > y0 then y2 else y0) < if i64.wrap (y2 + (y3.getD y5.toNat T0.dflt).2.1) < y1 then i64.wrap (y2 + (y3.getD y5.toNat T0.dflt).2.1) else y1))) = true from c)] at h
      by_cases q : ((f_u45 k (y3.getD y5.toNat T0.dflt) (i64.wrap ((if y2 > y0 then y2 else y0) - y2)) (i64.wrap ((if i64.wrap (y2 + (y3.getD y5.toNat T0.dflt).2.1) < y1 then i64.wrap (y2 + (y3.getD y5.toNat T0.dflt).2.1) else y1) - if y2 > y0 then y2 else y0))).isSome = true) ∧ ((f_u30 k (v_u45 k (y3.getD y5.toNat T0.dflt) (i64.wrap ((if y2 > y0 then y2 else y0) - y2)) (i64.wrap ((if i64.wrap (y2 + (y3.getD y5.toNat T0.dflt).2.1) < y1 then i64.wrap (y2 + (y3.getD y5.toNat T0.dflt).2.1) else y1) - if y2 > y0 then y2 else y0))) y6).isSome = true)
      ·rw [if_pos q] at h
       refine ⟨(conjC (cc_u45 k (y3.getD y5.toNat T0.dflt) (i64.wrap ((if y2 > y0 then y2 else y0) - y2)) (i64.wrap ((if i64.wrap (y2 + (y3.getD y5.toNat T0.dflt).2.1) < y1 then i64.wrap (y2 + (y3.getD y5.toNat T0.dflt).2.1) else y1) - if y2 > y0 then y2 else y0)) q.1) (conjC (cc_u30 k (v_u45 k (y3.getD y5.toNat T0.dflt) (i64.wrap ((if y2 > y0 then y2 else y0) - y2)) (i64.wrap ((if i64.wrap (y2 + (y3.getD y5.toNat T0.dflt).2.1) < y1 then i64.wrap (y2 + (y3.getD y5.toNat T0.dflt).2.1) else y1) - if y2 > y0 then y2 else y0))) y6 q.2) conj0)), ?_⟩
       exact ih y0 y1 ((i64.wrap (y2 + (y3.getD y5.toNat T0.dflt).2.1))) y3 y4 ((i64.wrap (y5 + 1))) ((v_u30 k (v_u45 k (y3.getD y5.toNat T0.dflt) (i64.wrap ((if y2 > y0 then y2 else y0) - y2)) (i64.wrap ((if i64.wrap (y2 + (y3.getD y5.toNat T0.dflt).2.1) < y1 then i64.wrap (y2 + (y3.getD y5.toNat T0.dflt).2.1) else y1) - if y2 > y0 then y2 else y0))) y6)) _ h
      ·rw [if_neg q] at h; cases h
     ·rw [cond_f (show ((decide ((if y2 > y0 then y2 else y0) < if i64.wrap (y2 + (y3.getD y5.toNat T0.dflt).2.1) < y1 then i64.wrap (y2 + (y3.getD y5.toNat T0.dflt).2.1) else y1))) = false from c)] at h
      exact ih y0 y1 ((i64.wrap (y2 + (y3.getD y5.toNat T0.dflt).2.1))) y3 y4 ((i64.wrap (y5 + 1))) y6 _ h
    ·rw [if_neg q] at h; cases h
   ·rw [cond_f (show ((decide (y5 < y4))) = false from c)] at h
    cases h; exact ⟨rfl, rfl⟩
theorem of_u40 (k : Nat) (m_ : List (T0).T) (from_ : Int) (to_ : Int) (f_c00 : Int) (r : R_u40) (h : f_u40 k m_ from_ to_ f_c00 = some r) : CC Try.prog 26 (args_u40 m_ from_ to_ f_c00) (bin_u40 m_ from_ to_ f_c00) (res_u40 r) (bo_u40 m_ from_ to_ f_c00 r) := by
 refine CC.of (fn := Try.f26) (by kernel_rfl) (by kernel_rfl) (by kernel_rfl) (by kernel_rfl) ?_
 unfold f_u40 at h
 refine Ev.tree hm (R := Rt) (K := (K_u40 k)) (l := []) (C := [(2, [.autoB [1, 2, 3, 8, 13, 14, 15] false []])]) (E := [.autoB [] true []]) (n := 1000) (T := .cut 2 (placeAt Try.f26 2) (st_u40_2 m_ from_ to_ f_c00 from_ to_ 0 m_ ((↑m_.length : Int)) 0 f_c00)) (by kernel_rfl) ?_
 exact (ev_u40 k m_ from_ to_ f_c00 k) from_ to_ 0 m_ ((↑m_.length : Int)) 0 f_c00 _ h
theorem cc_u40 (k : Nat) (m_ : List (T0).T) (from_ : Int) (to_ : Int) (f_c00 : Int) (h : (f_u40 k m_ from_ to_ f_c00).isSome = true) : CC Try.prog 26 (args_u40 m_ from_ to_ f_c00) (bin_u40 m_ from_ to_ f_c00) (res_u40 (v_u40 k m_ from_ to_ f_c00)) (bo_u40 m_ from_ to_ f_c00 (v_u40 k m_ from_ to_ f_c00)) := by
 cases e : f_u40 k m_ from_ to_ f_c00 with
 | none => rw [e] at h; cases h
 | some r => rw [show v_u40 k m_ from_ to_ f_c00 = r by simp [v_u40, e]]; exact of_u40 k m_ from_ to_ f_c00 r e

end
end Go.AM
namespace Go.AM
open Go Go.Proofs Go.IntKind
set_option linter.unusedVariables false
noncomputable section
abbrev R_u29 : Type := Int × Int
def res_u29 (r : R_u29) : AV := .tup [.r (.v (.int .i64 r.1)), .r (.v (.int .i64 r.2))]
def bo_u29 (m_ : List (T0).T) (x_ : Int) (r : R_u29) : List (Nat × Blk) := []
def args_u29 (m_ : List (T0).T) (x_ : Int) : List AV := [.r (.ro T0 m_), .r (.v (.int .i64 x_))]
def bin_u29 (m_ : List (T0).T) (x_ : Int) : List Blk := []
def f_u29 (k : Nat) (m_ : List (T0).T) (x_ : Int) : Option R_u29 :=
 if ((f_u31 k m_).isSome = true) then
 bif (v_u31 k m_ != (0 : Int)) then
 some ((0, v_u31 k m_))
 else
 bif (decide (x_ < (0 : Int))) then
 if (decide (x_ < (0 : Int)) = true) then
 some ((0, 1))
 else none
 else
 if (decide (x_ < (0 : Int)) = false) ∧ ((f_u44 k m_).isSome = true) then
 bif (false || decide (x_ ≥ v_u44 k m_)) then
 some ((0, 1))
 else
 if ((f_u40 k m_ x_ (i64.wrap (x_ + 1)) 0).isSome = true) then
 some ((v_u40 k m_ x_ (i64.wrap (x_ + 1)) 0, 0))
 else none
 else none
 else none
def v_u29 (k : Nat) (m_ : List (T0).T) (x_ : Int) : R_u29 := (f_u29 k m_ x_).getD (0, 0)
def K_u29 (k : Nat) : Calld := ⟨fun g xs => match g with
 | 24 => match xs with
  | [_] => some [false]
  | _ => none
 | 25 => match xs with
  | [_] => some [false]
  | _ => none
 | 27 => match xs with
  | [_, .ptr _ _ _] => some [false, true]
  | _ => none
 | 26 => match xs with
  | [_, _, _, .fn (.func 27) _ _] => some [false, false, false, true]
  | _ => none
 | _ => none, fun g xs bs => match g with
 | 24 => match xs, bs with
  | [.r (.ro tm__ qm_)], [] => (castL tm__ T0 qm_).bind fun m_ => some (.one (res_u31 (v_u31 k m_), bo_u31 m_ (v_u31 k m_)))
  | _, _ => none
 | 25 => match xs, bs with
  | [.r (.ro tm__ qm_)], [] => (castL tm__ T0 qm_).bind fun m_ => some (.one (res_u44 (v_u44 k m_), bo_u44 m_ (v_u44 k m_)))
  | _, _ => none
 | 27 => match xs, bs with
  | [.agg qr_, .ptr 0 0 0], [.var 3 [.r (.v (.int .i64 z00))]] => (decS [] T0 qr_).bind fun r_ => some (.one (res_u30 (v_u30 k r_ z00), bo_u30 r_ z00 (v_u30 k r_ z00)))
  | _, _ => none
 | 26 => match xs, bs with
  | [.r (.ro tm__ qm_), .r (.v (.int .i64 from_)), .r (.v (.int .i64 to_)), .fn (.func 27) [] [.ptr 0 0 0]], [.var 3 [.r (.v (.int .i64 f_c00))]] => (castL tm__ T0 qm_).bind fun m_ => some (.one (res_u40 (v_u40 k m_ from_ to_ f_c00), bo_u40 m_ from_ to_ f_c00 (v_u40 k m_ from_ to_ f_c00)))
  | _, _ => none
 | _ => none⟩
theorem of_u29 (k : Nat) (m_ : List (T0).T) (x_ : Int) (r : R_u29) (h : f_u29 k m_ x_ = some r) : CC Try.prog 12 (args_u29 m_ x_) (bin_u29 m_ x_) (res_u29 r) (bo_u29 m_ x_ r) := by
 refine CC.of (fn := Try.f12) (by kernel_rfl) (by kernel_rfl) (by kernel_rfl) (by kernel_rfl) ?_
 unfold f_u29 at h
 refine Ev.tree hm (R := Rt) (K := (K_u29 k)) (l := []) (C := []) (E := [.autoB [4, 5] true []]) (n := 1000) (T := .need [CC Try.prog 24 (args_u31 m_) (bin_u31 m_) (res_u31 (v_u31 k m_)) (bo_u31 m_ (v_u31 k m_))] (.test ((v_u31 k m_ != (0 : Int))) (.leaf (res_u29 ((0, v_u31 k m_))) (bo_u29 m_ x_ ((0, v_u31 k m_)))) (.test ((decide (x_ < (0 : Int)))) (.need [decide (x_ < (0 : Int)) = true] (.test (true) (.leaf (res_u29 ((0, 1))) (bo_u29 m_ x_ ((0, 1)))) (.need [CC Try.prog 26 (args_u40 m_ x_ (i64.wrap (x_ + 1)) 0) (bin_u40 m_ x_ (i64.wrap (x_ + 1)) 0) (res_u40 (v_u40 k m_ x_ (i64.wrap (x_ + 1)) 0)) (bo_u40 m_ x_ (i64.wrap (x_ + 1)) 0 (v_u40 k m_ x_ (i64.wrap (x_ + 1)) 0))] (.leaf (.tup [.r (.v (.int .i64 ((v_u40 k m_ x_ (i64.wrap (x_ + 1)) 0)))), .r (.v (.int .i64 0))]) [])))) (.need [decide (x_ < (0 : Int)) = false, CC Try.prog 25 (args_u44 m_) (bin_u44 m_) (res_u44 (v_u44 k m_)) (bo_u44 m_ (v_u44 k m_))] (.test ((false || decide (x_ ≥ v_u44 k m_))) (.leaf (res_u29 ((0, 1))) (bo_u29 m_ x_ ((0, 1)))) (.need [CC Try.prog 26 (args_u40 m_ x_ (i64.wrap (x_ + 1)) 0) (bin_u40 m_ x_ (i64.wrap (x_ + 1)) 0) (res_u40 (v_u40 k m_ x_ (i64.wrap (x_ + 1)) 0)) (bo_u40 m_ x_ (i64.wrap (x_ + 1)) 0 (v_u40 k m_ x_ (i64.wrap (x_ + 1)) 0))] (.leaf (res_u29 ((v_u40 k m_ x_ (i64.wrap (x_ + 1)) 0, 0))) (bo_u29 m_ x_ ((v_u40 k m_ x_ (i64.wrap (x_ + 1)) 0, 0)))))))))) (by kernel_rfl) ?_
 by_cases q : ((f_u31 k m_).isSome = true)
 ·rw [if_pos q] at h
  refine ⟨(conjC (cc_u31 k m_ q) conj0), ?_⟩
  refine ⟨fun c => ?_, fun c => ?_⟩
  ·rw [cond_t (show ((v_u31 k m_ != (0 : Int))) = true from c)] at h
   cases h; exact ⟨rfl, rfl⟩
  ·rw [cond_f (show ((v_u31 k m_ != (0 : Int))) = false from c)] at h
   refine ⟨fun c => ?_, fun c => ?_⟩
   ·rw [cond_t (show ((decide (x_ < (0 : Int)))) = true from c)] at h
    by_cases q : (decide (x_ < (0 : Int)) = true)
    ·rw [if_pos q] at h
     refine ⟨(conjC q conj0), ?_⟩
     refine ⟨fun c => ?_, fun c => ?_⟩
     rotate_left
     ·cases c
     cases h; exact ⟨rfl, rfl⟩
    ·rw [if_neg q] at h; cases h
   ·rw [cond_f (show ((decide (x_ < (0 : Int)))) = false from c)] at h
    by_cases q : (decide (x_ < (0 : Int)) = false) ∧ ((f_u44 k m_).isSome = true)
    ·rw [if_pos q] at h
     refine ⟨(conjC q.1 (conjC (cc_u44 k m_ q.2) conj0)), ?_⟩
     refine ⟨fun c => ?_, fun c => ?_⟩
     ·rw [cond_t (show ((false || decide (x_ ≥ v_u44 k m_))) = true from c)] at h
      cases h; exact ⟨rfl, rfl⟩
     ·rw [cond_f (show ((false || decide (x_ ≥ v_u44 k m_))) = false from c)] at h
      by_cases q : ((f_u40 k m_ x_ (i64.wrap (x_ + 1)) 0).isSome = true)
      ·rw [if_pos q] at h
       refine ⟨(conjC (cc_u40 k m_ x_ (i64.wrap (x_ + 1)) 0 q) conj0), ?_⟩
       cases h; exact ⟨rfl, rfl⟩
      ·rw [if_neg q] at h; cases h
    ·rw [if_neg q] at h; cases h
 ·rw [if_neg q] at h; cases h
theorem cc_u29 (k : Nat) (m_ : List (T0).T) (x_ : Int) (h : (f_u29 k m_ x_).isSome = true) : CC Try.prog 12 (args_u29 m_ x_) (bin_u29 m_ x_) (res_u29 (v_u29 k m_ x_)) (bo_u29 m_ x_ (v_u29 k m_ x_)) := by
 cases e : f_u29 k m_ x_ with
 | none => rw [e] at h; cases h
 | some r => rw [show v_u29 k m_ x_ = r by simp [v_u29, e]]; exact of_u29 k m_ x_ r e

end
end Go.AM
namespace Go.AM
open Go Go.Proofs Go.IntKind
set_option linter.unusedVariables false
noncomputable section
abbrev R_u43 : Type := T7.T
def res_u43 (r : R_u43) : AV := .agg (rvs (enc T7 r))
def bo_u43 (r_ : T0.T) (r : R_u43) : List (Nat × Blk) := []
def args_u43 (r_ : T0.T) : List AV := [.agg (rvs (enc T0 r_))]
def bin_u43 (r_ : T0.T) : List Blk := []
def f_u43 (k : Nat) (r_ : T0.T) : Option R_u43 :=
 if ((f_u42 k r_ (i64.wrap (r_.2.1 - 1))).isSome = true) then
 some ((if v_u42 k r_ (i64.wrap (r_.2.1 - 1)) < r_.1 then v_u42 k r_ (i64.wrap (r_.2.1 - 1)) else r_.1, i64.wrap ((if v_u42 k r_ (i64.wrap (r_.2.1 - 1)) > r_.1 then v_u42 k r_ (i64.wrap (r_.2.1 - 1)) else r_.1) + 1)))
 else none
def v_u43 (k : Nat) (r_ : T0.T) : R_u43 := (f_u43 k r_).getD (T7).dflt
def K_u43 (k : Nat) : Calld := ⟨fun g xs => match g with
 | 44 => match xs with
  | [_, _] => some [false, false]
  | _ => none
 | _ => none, fun g xs bs => match g with
 | 44 => match xs, bs with
  | [.agg qr_, .r (.v (.int .i64 x_))], [] => (decS [] T0 qr_).bind fun r_ => some (.one (res_u42 (v_u42 k r_ x_), bo_u42 r_ x_ (v_u42 k r_ x_)))
  | _, _ => none
 | _ => none⟩
theorem of_u43 (k : Nat) (r_ : T0.T) (r : R_u43) (h : f_u43 k r_ = some r) : CC Try.prog 53 (args_u43 r_) (bin_u43 r_) (res_u43 r) (bo_u43 r_ r) := by
 refine CC.of (fn := Try.f53) (by kernel_rfl) (by kernel_rfl) (by kernel_rfl) (by kernel_rfl) ?_
 unfold f_u43 at h
 refine Ev.tree hm (R := Rt) (K := (K_u43 k)) (l := []) (C := []) (E := [.autoB [2] true []]) (n := 1000) (T := .need [CC Try.prog 44 (args_u42 r_ (i64.wrap (r_.2.1 - 1))) (bin_u42 r_ (i64.wrap (r_.2.1 - 1))) (res_u42 (v_u42 k r_ (i64.wrap (r_.2.1 - 1)))) (bo_u42 r_ (i64.wrap (r_.2.1 - 1)) (v_u42 k r_ (i64.wrap (r_.2.1 - 1))))] (.leaf (res_u43 ((if v_u42 k r_ (i64.wrap (r_.2.1 - 1)) < r_.1 then v_u42 k r_ (i64.wrap (r_.2.1 - 1)) else r_.1, i64.wrap ((if v_u42 k r_ (i64.wrap (r_.2.1 - 1)) > r_.1 then v_u42 k r_ (i64.wrap (r_.2.1 - 1)) else r_.1) + 1)))) (bo_u43 r_ ((if v_u42 k r_ (i64.wrap (r_.2.1 - 1)) < r_.1 then v_u42 k r_ (i64.wrap (r_.2.1 - 1)) else r_.1, i64.wrap ((if v_u42 k r_ (i64.wrap (r_.2.1 - 1)) > r_.1 then v_u42 k r_ (i64.wrap (r_.2.1 - 1)) else r_.1) + 1)))))) (by kernel_rfl) ?_
 by_cases q : ((f_u42 k r_ (i64.wrap (r_.2.1 - 1))).isSome = true)
 ·rw [if_pos q] at h
  refine ⟨(conjC (cc_u42 k r_ (i64.wrap (r_.2.1 - 1)) q) conj0), ?_⟩
  cases h; exact ⟨rfl, rfl⟩
 ·rw [if_neg q] at h; cases h
theorem cc_u43 (k : Nat) (r_ : T0.T) (h : (f_u43 k r_).isSome = true) : CC Try.prog 53 (args_u43 r_) (bin_u43 r_) (res_u43 (v_u43 k r_)) (bo_u43 r_ (v_u43 k r_)) := by
 cases e : f_u43 k r_ with
 | none => rw [e] at h; cases h
 | some r => rw [show v_u43 k r_ = r by simp [v_u43, e]]; exact of_u43 k r_ r e

end
end Go.AM
namespace Go.AM
open Go Go.Proofs Go.IntKind
set_option linter.unusedVariables false
noncomputable section
abbrev R_u65 : Type := Bool
def res_u65 (r : R_u65) : AV := .r (.v (.bool r))
def bo_u65 (a_ : Bool) (b_ : Bool) (r : R_u65) : List (Nat × Blk) := []
def args_u65 (a_ : Bool) (b_ : Bool) : List AV := [.r (.v (.bool a_)), .r (.v (.bool b_))]
def bin_u65 (a_ : Bool) (b_ : Bool) : List Blk := []
def f_u65 (k : Nat) (a_ : Bool) (b_ : Bool) : Option R_u65 :=
 some a_
def v_u65 (k : Nat) (a_ : Bool) (b_ : Bool) : R_u65 := (f_u65 k a_ b_).getD false
def K_u65 (k : Nat) : Calld := ⟨fun g xs => match g with
 | _ => none, fun g xs bs => match g with
 | _ => none⟩
theorem of_u65 (k : Nat) (a_ : Bool) (b_ : Bool) (r : R_u65) (h : f_u65 k a_ b_ = some r) : CC Try.prog 58 (args_u65 a_ b_) (bin_u65 a_ b_) (res_u65 r) (bo_u65 a_ b_ r) := by
 refine CC.of (fn := Try.f58) (by kernel_rfl) (by kernel_rfl) (by kernel_rfl) (by kernel_rfl) ?_
 unfold f_u65 at h
 refine Ev.tree hm (R := Rt) (K := (K_u65 k)) (l := []) (C := []) (E := [.autoB [4] true []]) (n := 1000) (T := .leaf (res_u65 a_) (bo_u65 a_ b_ a_)) (by kernel_rfl) ?_
 cases h; exact ⟨rfl, rfl⟩
theorem cc_u65 (k : Nat) (a_ : Bool) (b_ : Bool) (h : (f_u65 k a_ b_).isSome = true) : CC Try.prog 58 (args_u65 a_ b_) (bin_u65 a_ b_) (res_u65 (v_u65 k a_ b_)) (bo_u65 a_ b_ (v_u65 k a_ b_)) := by
 cases e : f_u65 k a_ b_ with
 | none => rw [e] at h; cases h
 | some r => rw [show v_u65 k a_ b_ = r by simp [v_u65, e]]; exact of_u65 k a_ b_ r e

end
end Go.AM
namespace Go.AM
open Go Go.Proofs Go.IntKind
set_option linter.unusedVariables false
noncomputable section
abbrev R_u63 : Type := Int
def res_u63 (r : R_u63) : AV := .r (.v (.int .i64 r))
def bo_u63 (l_ : List (T7).T) (r : R_u63) : List (Nat × Blk) := []
def args_u63 (l_ : List (T7).T) : List AV := [.r (.ro T7 l_)]
def bin_u63 (l_ : List (T7).T) : List Blk := []
def st_u63_4 (y0 : List (T7).T) (y1 : Int) (y2 : Int) : St := ⟨mkS 30 [(8, .r (.ro T7 y0)), (9, .r (.v (.int .i64 y1))), (10, .r (.v (.int .i64 y2)))], []⟩
def f_u63_4 (k : Nat) : Nat → List (T7).T → Int → Int → Option R_u63
 | 0, _, _, _ => none
 | j + 1, y0, y1, y2 =>
 bif (decide (y2 < y1)) then
 if (0 ≤ y2) ∧ (y2 < (↑y0.length : Int)) then
 bif (decide ((y0.getD y2.toNat T7.dflt).1 < (0 : Int)) || decide ((y0.getD y2.toNat T7.dflt).1 > (y0.getD y2.toNat T7.dflt).2) || decide ((y0.getD y2.toNat T7.dflt).2 > (17179869184 : Int))) then
 some 1
 else
 f_u63_4 k j y0 y1 ((i64.wrap (y2 + 1)))
 else none
 else
 some 0
def f_u63 (k : Nat) (l_ : List (T7).T) : Option R_u63 :=
 bif (decide ((↑l_.length : Int) > (256 : Int))) then
 some 8
 else
 f_u63_4 k k l_ ((↑l_.length : Int)) 0
def v_u63 (k : Nat) (l_ : List (T7).T) : R_u63 := (f_u63 k l_).getD 0
def K_u63 (k : Nat) : Calld := ⟨fun g xs => match g with
 | _ => none, fun g xs bs => match g with
 | _ => none⟩
theorem ev_u63 (k : Nat) (l_ : List (T7).T) : ∀ j, (∀ (y0 : List (T7).T) (y1 : Int) (y2 : Int) (r : R_u63), f_u63_4 k j y0 y1 y2 = some r → Ev Try.prog Try.f55 0 (placeAt Try.f55 4) (st_u63_4 y0 y1 y2) (res_u63 r) (bo_u63 l_ r))
 | 0 => by
  intros; rename_i h; simp [f_u63_4] at h
 | j + 1 => by
  have ih := ev_u63 k l_ j
  ·intro y0 y1 y2 r h
   rw [f_u63_4] at h
   refine Ev.tree hm (R := Rt) (K := (K_u63 k)) (l := []) (C := [(4, [.autoB [8, 9, 10] false []])]) (E := [.autoB [2] true []]) (n := 1000) (T := .test ((decide (y2 < y1))) (.need [0 ≤ y2, y2 < (↑y0.length : Int)] (.test ((decide ((y0.getD y2.toNat T7.dflt).1 < (0 : Int)) || decide ((y0.getD y2.toNat T7.dflt).1 > (y0.getD y2.toNat T7.dflt).2) || decide ((y0.getD y2.toNat T7.dflt).2 > (17179869184 : Int)))) (.leaf (res_u63 1) (bo_u63 l_ 1)) (.cut 4 (placeAt Try.f55 4) (st_u63_4 y0 y1 ((i64.wrap (y2 + 1))))))) (.leaf (res_u63 0) (bo_u63 l_ 0))) (by kernel_rfl) ?_
   refine ⟨fun c => ?_, fun c => ?_⟩
   ·rw [cond_t (show ((decide (y2 < y1))) = true from c)] at h
    by_cases q : (0 ≤ y2) ∧ (y2 < (↑y0.length : Int))
    ·rw [if_pos q] at h
     refine ⟨(conjC q.1 (conjC q.2 conj0)), ?_⟩
     refine ⟨fun c => ?_, fun c => ?_⟩
     ·rw [cond_t (show ((decide ((y0.getD y2.toNat T7.dflt).1 < (0 : Int)) || decide ((y0.getD y2.toNat T7.dflt).1 > (y0.getD y2.toNat T7.dflt).2) || decide ((y0.getD y2.toNat T7.dflt).2 > (17179869184 : Int)))) = true from c)] at h
      cases h; exact ⟨rfl, rfl⟩
     ·rw [cond_f (show ((decide ((y0.getD y2.toNat T7.dflt).1 < (0 : Int)) || decide ((y0.getD y2.toNat T7.dflt).1 > (y0.getD y2.toNat T7.dflt).2) || decide ((y0.getD y2.toNat T7.dflt).2 > (17179869184 : Int)))) = false from c)] at h
      exact ih y0 y1 ((i64.wrap (y2 + 1))) _ h
    ·rw [if_neg q] at h; cases h
   ·rw [cond_f (show ((decide (y2 < y1))) = false from c)] at h
    cases h; exact ⟨rfl, rfl⟩
theorem of_u63 (k : Nat) (l_ : List (T7).T) (r : R_u63) (h : f_u63 k l_ = some r) : CC Try.prog 55 (args_u63 l_) (bin_u63 l_) (res_u63 r) (bo_u63 l_ r) := by
 refine CC.of (fn := Try.f55) (by kernel_rfl) (by kernel_rfl) (by kernel_rfl) (by kernel_rfl) ?_
 unfold f_u63 at h
 refine Ev.tree hm (R := Rt) (K := (K_u63 k)) (l := []) (C := [(4, [.autoB [8, 9, 10] false []])]) (E := [.autoB [2] true []]) (n := 1000) (T := .test ((decide ((↑l_.length : Int) > (256 : Int)))) (.leaf (res_u63 8) (bo_u63 l_ 8)) (.cut 4 (placeAt Try.f55 4) (st_u63_4 l_ ((↑l_.length : Int)) 0))) (by kernel_rfl) ?_
 refine ⟨fun c => ?_, fun c => ?_⟩
 ·rw [cond_t (show ((decide ((↑l_.length : Int) > (256 : Int)))) = true from c)] at h
  cases h; exact ⟨rfl, rfl⟩
 ·rw [cond_f (show ((decide ((↑l_.length : Int) > (256 : Int)))) = false from c)] at h
  exact (ev_u63 k l_ k) l_ ((↑l_.length : Int)) 0 _ h
theorem cc_u63 (k : Nat) (l_ : List (T7).T) (h : (f_u63 k l_).isSome = true) : CC Try.prog 55 (args_u63 l_) (bin_u63 l_) (res_u63 (v_u63 k l_)) (bo_u63 l_ (v_u63 k l_)) := by
 cases e : f_u63 k l_ with
 | none => rw [e] at h; cases h
 | some r => rw [show v_u63 k l_ = r by simp [v_u63, e]]; exact of_u63 k l_ r e

end
end Go.AM
namespace Go.AM
open Go

end Go.AM
namespace Go.AM
open Go Go.Proofs Go.Shelf Go.RowKit Go.Lib
variable {P : Program} {ρ : Ren}

/-- the memory has grown, and what lay there lies as it lay -/
structure Ext (w w' : World) : Prop where
  grew : Grew w w'
  frame : ∀ B, B < w.heap.size → w'.heap[B]? = w.heap[B]?
theorem Ext.refl (w : World) : Ext w w := ⟨.refl w, fun _ _ => rfl⟩
theorem Ext.trans {a b c : World} (h : Ext a b) (k : Ext b c) : Ext a c := ⟨h.grew.trans k.grew, fun B hB => (k.frame B (Nat.lt_of_lt_of_le hB h.grew.size)).trans (h.frame B hB)⟩
end Go.AM
namespace Go.AM
open Go Go.Proofs Go.Shelf Go.RowKit

section
variable {P : Program}
/-- nothing came in by reference; one block comes out -/
theorem mem_one {cx : Cx} {env : Env} {b : Blk} {h : Value} {w' : World} (hn : ∀ n, env n = none) (hh : ∀ n, ¬ cx.hid n) (hent : ∀ nm h, cx.ent nm = some h ↔ env nm = some (0, h))
    (hg : Grew cx.w0 w') (hfr : ∀ B, B < cx.w0.heap.size → w'.heap[B]? = cx.w0.heap[B]?) (hb : ∀ B, hblk h = some B → cx.w0.heap.size ≤ B ∧ B < w'.heap.size)
    (hr : RepB w' (okOf cx (env.put 0 0 h) w') (env.put 0 0 h) h b) : Mem cx (numB 0 [(0, b)]) w' (env.put 0 0 h) := by
  have nent : ∀ nm h0, cx.ent nm = some h0 → False := fun nm h0 e => by
    have := (hent nm h0).1 e
    rw [hn] at this; cases this
  have hput : ∀ nm v x, env.put 0 0 h nm = some (v, x) → nm = 0 ∧ v = 0 ∧ x = h := fun nm v x e => by
    unfold Env.put at e
    split at e
    · rename_i hn
      simp at e
      exact ⟨hn, e.1.symm, e.2.symm⟩
    · rw [hn] at e; cases e
  refine ⟨fun nm ver b' e => ?_, fun nm e _ => ?_, fun nm h => absurd h (hh nm), fun nm nm' v v' h h' B e e' _ _ => ?_, fun nm v h' B e hq => ?_, hg, fun B hB _ => hfr B hB, fun nm h h0 _ e0 => (nent nm h0 e0).elim, fun nm h0 e0 => (nent nm h0 e0).elim⟩
  · have hn : nm = 0 ∧ ver = 0 ∧ b' = b := by
      simp only [numB, getB] at e
      cases hq : Nat.beq 0 nm <;> simp only [hq, cond_true, cond_false] at e
      · cases e
      · have := Nat.eq_of_beq_eq_true hq
        simp at e
        exact ⟨this.symm, e.1.symm, e.2.symm⟩
    obtain ⟨rfl, rfl, rfl⟩ := hn
    exact ⟨h, by simp [Env.put], hr⟩
  · unfold Env.put
    split
    · rename_i hn
      subst hn
      simp [numB, getB] at e
    · exact hn nm
  · rw [(hput _ _ _ e).1, (hput _ _ _ e').1]
  · obtain ⟨rfl, rfl, rfl⟩ := hput _ _ _ e
    exact ⟨.inl (hb B hq).1, (hb B hq).2⟩

/-- a row of one's own, as the kit tells it -/
theorem repB_of_owns {w : World} {ok : Nat → Prop} {env : Env} {base : Nat} {e : TypeId} {τ : RTy} {l : List τ.T} {v : Value} {us : List Value} (hpos : 0 < τ.sz) (h : w.ownsRow base e τ.sz v l.length us) (hu : All2 (RepR w ok) us (encL τ l)) : RepB w ok env v (.row e τ l) ∧ ∀ B, hblk v = some B → base ≤ B ∧ B < w.heap.size := by
  obtain ⟨hl, ⟨rfl, h0⟩ | ⟨g, cap, cur, rfl, hg, hh, hcap, hmx, hs, ht⟩⟩ := h
  · have : l = [] := List.length_eq_zero_iff.1 h0
    subst this
    exact ⟨.rowNil _ _ _, fun B hB => by simp [hblk] at hB⟩
  · by_cases hc : cap = 0
    · have hl0 : l.length = 0 := by omega
      have : l = [] := List.length_eq_zero_iff.1 hl0
      subst this; subst hc
      exact ⟨.rowNil _ _ _, fun B hB => by simp [hblk] at hB⟩
    · refine ⟨.row g e τ l cap cur hh hcap (by omega) hmx hs fun k hk => ?_, fun B hB => ?_⟩
      · have := hu.get Go.undef .undef k (by rw [encL_length]; exact hk)
        rw [← ht] at this
        simpa [List.getElem?_take, hk] using this
      · rw [hblk_sl (by omega)] at hB
        simp at hB; subst hB
        exact ⟨hg, (Array.getElem?_eq_some_iff.1 hh).1⟩

open Go.RowKit Go.Lib in
set_option maxHeartbeats 2000000 in
set_option maxRecDepth 100000 in
/-- Clone of a slice of no elements, wherever it stands -/
theorem clone_empty {ρ : Ren} (L : SlLaysE0.n41 P ρ) (i0 : TypeInfo) (z : Value) (size bytes : Nat) (hi : P.info? (ρ.t 23) = some i0) (hz0 : i0.zero = some z) (hz1 : i0.size = size) (hz2 : i0.bytes = bytes) (hzs : z.cells.size = size) (hsz : 0 < size)
    (z23 : ∀ w, (Go.sizeOf (ρ.t 23)).run P w = .ok size w) (ad : Addr) (c : Nat) (w : World) :
    Calls P (ρ.f 41) #[.slice (some ad) 0 c] w fun e w' => ∃ v', e = .returned v' ∧ w'.ownsRow w.heap.size (ρ.t 23) size v' 0 [] ∧ Below w.heap.size w w' := by
  have mixed := L.mixed; have t4 := L.t4; have a4 := L.a4; have z4 := L.z4; have v4 := L.v4; have t22 := L.t22; have a22 := L.a22; have z22 := L.z22; have v22 := L.v22
  have q22 : ∀ (w : World) (a : Option Addr) (n c n' c' : Nat), (binOp .eql (ρ.t 22) (.slice a n c) (.slice none n' c')).run P w = .ok (.bool a.isNone) w := fun w a n c n' c' => Lib.run_eql_slice_nil w _ _ a n c n' c' L.t22
  have u22 : ∀ w, Sem.run P (underlying (ρ.t 22)) w = .ok (TypeDesc.slice (ρ.t 23)) w := run_underlying t22
  obtain ⟨_, _, FG⟩ := L.f41
  go_enter FG, SlBodyN.n41_ntmps ρ
  go_wp2_with (at_builtin; refine wpList_append_own _ rfl _ _ (ρ.t 22) rfl w.heap.size (ρ.t 23) i0 z size bytes t22 hi hz0 hz1 hz2 hzs hsz _ _ _ rfl (World.ownsRow_made w #[] 0 (Nat.le_refl _) (Nat.zero_le _) (by simp)) ad 0 c [] rfl ?qc1 ?qc2 ?qc3 ?qc4 ?qc5 ?qc6 ?_)
  case qc1 => simp
  case qc2 => intro j u hj; simp at hj
  case qc3 => intro u hu; simp at hu
  case qc4 => simp [maxLen]
  case qc5 => simp
  case qc6 => simp
  intro v' w1 hown hgrow hnil
  go_wp2
  go_ret
  refine ⟨v', rfl, by simpa using hown, ?_⟩
  exact ((Below.refl _ w).alloc (Nat.le_refl _) _).grown hgrow (by simp) (by intro k hk; simp [Value.ownBlock] at hk; omega)

theorem cc_clone [GT P] {ρ : Ren} (L : SlLaysE0.n41 P ρ) {τ : RTy} {i0 : TypeInfo} {z : Value} (hi : P.info? (ρ.t 23) = some i0) (hz0 : i0.zero = some z) (hz1 : i0.size = τ.sz) (hzs : z.cells.size = τ.sz) (hpos : 0 < τ.sz) (hby : 0 < i0.bytes) (z23 : ∀ w, (Go.sizeOf (ρ.t 23)).run P w = .ok τ.sz w)
    (hf : ∃ fn c, P.funcs[ρ.f 41]? = some fn ∧ fn.body = some c ∧ (fn.name == "runtime.NumGoroutine") = false) (l : List τ.T) (hbig : l.length * i0.bytes ≤ 140737488355328) : CC P (ρ.f 41) [.r (.ro τ l)] [] (.own 0 0) [(0, .row (ρ.t 23) τ l)] := by
  refine ⟨hf, fun cx env vs hwf hG hh hent hm hs hargs => ?_⟩
  have none : ∀ n, env n = none := fun n => hm.dom n rfl (hh n)
  have hvs : vs = #[vs.getD 0 Go.undef] := by
    refine Array.ext (by rw [hs]; rfl) fun i hi1 hi2 => ?_
    have : i = 0 := by simpa using hi2
    subst this
    simp [hi1]
  have hr := hargs 0 (by simp)
  simp only [List.getD_cons_zero] at hr
  rw [hvs]
  generalize vs.getD 0 Go.undef = u at hr
  have hlen : l.length ≤ maxLen := by
    have : l.length ≤ l.length * i0.bytes := Nat.le_mul_of_pos_right _ hby
    unfold maxLen; omega
  have fin : ∀ {v' : Value} {w' : World} {us : List Value}, w'.ownsRow cx.w0.heap.size (ρ.t 23) τ.sz v' l.length us → Below cx.w0.heap.size cx.w0 w' → All2 (RepR cx.w0 (okOf cx env cx.w0)) us (encL τ l) →
      ∃ v env', (Ending.returned v' : Ending) = .returned v ∧ Mem cx (numB 0 [(0, .row (ρ.t 23) τ l)]) w' env' ∧ Rep w' (okOf cx env' w') env' v (.own 0 0) := fun {v' w' us} ho hB hu => by
    have ok' : ∀ B, okOf cx env cx.w0 B → okOf cx (env.put 0 0 v') w' B := fun B ⟨h1, h2, h3⟩ => by
      refine ⟨h1, Nat.lt_of_lt_of_le h2 hB.size, fun nm ver h e q => ?_⟩
      unfold Env.put at e
      split at e
      · simp at e
        obtain ⟨rfl, rfl⟩ := e
        obtain ⟨_, ⟨rfl, _⟩ | ⟨g, cap, cur, rfl, hg, _⟩⟩ := ho
        · simp [hblk] at q
        · cases cap with
          | zero => simp [hblk] at q
          | succ c => simp [hblk] at q; omega
      · rw [none] at e; cases e
    have hu' : All2 (RepR w' (okOf cx (env.put 0 0 v') w')) us (encL τ l) := hu.mono fun _ _ h => h.mono ok' fun B o hB' => cell_of_heap (hB.block B hB'.2.1) o
    obtain ⟨h1, h2⟩ := repB_of_owns (env := env.put 0 0 v') hpos ho hu'
    exact ⟨v', env.put 0 0 v', rfl, mem_one none hh hent ⟨hB.size, hB.os, hB.output⟩ (fun B hB' => hB.block B hB') h2 h1, .own ⟨0, _, by simp [Env.put], Nat.le_refl _, fun _ => rfl⟩⟩
  have nilC : ∀ cap, l = [] → Calls P (ρ.f 41) #[.slice Option.none 0 cap] cx.w0 fun e w' => ∃ v env', e = .returned v ∧ Mem cx (numB 0 [(0, .row (ρ.t 23) τ l)]) w' env' ∧ Rep w' (okOf cx env' w') env' v (.own 0 0) := fun cap h0 => by
    refine (AnyE.slices_Clone_nil L 0 cap cx.w0).mono fun e w' ⟨he, hw⟩ => ?_
    subst hw; subst h0; subst he
    exact fin (us := []) ⟨by simp, .inl ⟨rfl, rfl⟩⟩ (Below.refl _ _) .nil
  have some_ : ∀ (B o cap : Nat) (us : List Value), us.length = l.length * τ.sz → (∀ k, k < l.length * τ.sz → cx.w0.cell? ⟨B, o + k, Option.none⟩ = some (us.getD k Go.undef)) → All2 (RepR cx.w0 (okOf cx env cx.w0)) us (encL τ l) →
      Calls P (ρ.f 41) #[.slice (some ⟨B, o, Option.none⟩) l.length cap] cx.w0 fun e w' => ∃ v env', e = .returned v ∧ Mem cx (numB 0 [(0, .row (ρ.t 23) τ l)]) w' env' ∧ Rep w' (okOf cx env' w') env' v (.own 0 0) := fun B o cap us h1 h2 h3 => by
    refine (AnyE.slices_Clone L i0 z τ.sz i0.bytes hi hz0 hz1 rfl hzs hpos z23 B o l.length cap us cx.w0 h1 hlen hbig (fun j u hu => ?_) (encL_oneCell τ l us h3)).mono fun e w' ⟨v', he, ho, _, hB⟩ => ?_
    · obtain ⟨hj, hv⟩ := List.getElem?_eq_some_iff.1 hu
      rw [h2 j (by omega)]
      simp [hj, hv]
    · subst he
      exact fin ho hB h3
  cases hr with
  | r h =>
    cases h with
    | nil _ a cap =>
      cases a with
      | none => exact nilC cap rfl
      | some a =>
        obtain ⟨B, o, q⟩ := a
        cases q with
        | none => exact some_ B o cap [] (by simp) (fun k hk => by simp at hk) .nil
        | some q =>
          refine (clone_empty L i0 z τ.sz i0.bytes hi hz0 hz1 rfl hzs hpos z23 ⟨B, o, some q⟩ cap cx.w0).mono fun e w' ⟨v', he, ho, hB⟩ => ?_
          subst he
          exact fin ho hB .nil
    | ro _ _ B o cap g hB hcap hc hr =>
      obtain ⟨us, h1, h2, h3⟩ := repR_cells (RepR.ro τ l B o cap g hB hcap hc hr)
      exact some_ B o cap us h1 h2 h3
end
end Go.AM
namespace Go.AM
open Go Go.Proofs Go.Shelf Go.RowKit Go.Sort

def valsL (τ : RTy) : List τ.T → List Value
  | [] => []
  | x :: l => vals τ x ++ valsL τ l
theorem encL_flat {τ : RTy} (hf : τ.flat = true) : ∀ l : List τ.T, encL τ l = (valsL τ l).map .v
  | [] => rfl
  | x :: l => by simp [encL, valsL, rvs_enc_flat τ x hf, encL_flat hf l]
theorem valsL_length {τ : RTy} (hf : τ.flat = true) (l : List τ.T) : (valsL τ l).length = l.length * τ.sz := by
  rw [← encL_length, encL_flat hf]; simp

theorem repR_v_inv' {w : World} {ok : Nat → Prop} {u x : Value} (h : RepR w ok u (.v x)) : u = x := by
  cases h; rfl

section
variable {P : Program}

/-- what a row of one's own may be, to a function that changes it where it stands -/
def InPlace (P : Program) [GT P] (f : FuncId) (τ : RTy) (e : TypeId) (l l' : List τ.T) (ys : List Value) : Prop :=
  (l = [] → ∀ (w : World) (a : Option Addr), GT.G P w → Calls P f (.slice a 0 0 :: ys).toArray w fun en w' => en = .returned (.tuple #[]) ∧ Grew w w' ∧ ∀ B, B < w.heap.size → w'.heap[B]? = w.heap[B]?) ∧
  ∀ (w : World) (B cap : Nat) (cur : Array Value), GT.G P w → w.heap[B]? = some (.cells cur e (0, 0)) → l.length ≤ cap → 0 < cap → cap ≤ maxLen → cur.size = cap * τ.sz → (∀ k, k < l.length * τ.sz → cur.getD k Go.undef = (valsL τ l).getD k Go.undef) →
    Calls P f (.slice (some ⟨B, 0, none⟩) l.length cap :: ys).toArray w fun en w' => en = .returned (.tuple #[]) ∧ Grew w w' ∧ (∀ B', B' < w.heap.size → B' ≠ B → w'.heap[B']? = w.heap[B']?) ∧
      ∃ cur', w'.heap[B]? = some (.cells cur' e (0, 0)) ∧ cur'.size = cur.size ∧ ∀ k, k < l.length * τ.sz → cur'.getD k Go.undef = (valsL τ l').getD k Go.undef

theorem cc_inplace [GT P] {f : FuncId} {τ : RTy} {e : TypeId} {l l' : List τ.T} (hflat : τ.flat = true) (hlen : l'.length = l.length) {xs : List AV} {ys : List Value} (hxl : xs.length = ys.length)
    (hx : ∀ (w : World) (ok : Nat → Prop) (env : Env) (u : Value) (i : Nat), i < xs.length → Rep w ok env u (xs.getD i .undef) → u = ys.getD i Go.undef)
    (hf : ∃ fn c, P.funcs[f]? = some fn ∧ fn.body = some c ∧ (fn.name == "runtime.NumGoroutine") = false) (h : InPlace P f τ e l l' ys) :
    CC P f (.own 0 0 :: xs) [.row e τ l] (.tup []) [(0, .row e τ l')] := by
  refine ⟨hf, fun cx env vs hwf hG hh hent hm hs hargs => ?_⟩
  obtain ⟨top, h1, h2, h3, h4⟩ := hG
  have hG := GT.keep _ _ h3 h1
  obtain ⟨u, heu, hrep⟩ := hm.blk 0 0 (.row e τ l) rfl
  have hvs : vs = (u :: ys).toArray := by
    refine Array.ext (by rw [hs]; simp [hxl]) fun i hi hi2 => ?_
    have hi3 : i < xs.length + 1 := by rw [hs] at hi; simpa using hi
    have hr := hargs i (by simpa using hi3)
    cases i with
    | zero =>
      simp only [List.getD_cons_zero] at hr
      have : vs.getD 0 Go.undef = u := by
        generalize vs.getD 0 Go.undef = z at hr
        cases hr with
        | own hR =>
          obtain ⟨cv, x, e1, e2, e3⟩ := hR
          rw [heu] at e1
          simp at e1
          obtain ⟨rfl, rfl⟩ := e1
          exact e3 rfl
      simp [hi] at this
      simpa using this
    | succ i =>
      simp only [List.getD_cons_succ] at hr
      have := hx _ _ _ _ i (by omega) hr
      have hi4 : i < ys.length := by omega
      simp [hi, hi4] at this
      simpa using this
  subst hvs
  have upd : ∀ {w' : World}, Grew cx.w0 w' → (∀ B, B < cx.w0.heap.size → hblk u ≠ some B → w'.heap[B]? = cx.w0.heap[B]?) → RepB w' (okOf cx (env.put 0 0 u) w') (env.put 0 0 u) u (.row e τ l') →
      ∃ v env', (Ending.returned (.tuple #[]) : Ending) = .returned v ∧ Mem cx (numB 0 [(0, .row e τ l')]) w' env' ∧ Rep w' (okOf cx env' w') env' v (.tup []) := fun {w'} hg hk hr => by
    have T := mem_upd (ver := 0) (b := .row e τ l') hm (hh 0) ⟨⟨.inr ⟨0, u, heu, .inr ⟨rfl, rfl⟩⟩, hg, fun B hB hq => hk B hB (hq 0 u heu), fun B q => .inr ⟨0, u, heu, q⟩⟩, hr⟩
    exact ⟨_, _, rfl, T.mem, .tup _ _ rfl fun i hi => by simp at hi⟩
  generalize hb : Blk.row e τ l = b at hrep
  cases hrep with
  | rowNil _ _ a =>
    cases hb
    refine (h.1 rfl cx.w0 a hG).mono fun en w' ⟨he, hg, hk⟩ => ?_
    subst he
    refine upd hg (fun B hB _ => hk B hB) ?_
    have : l' = [] := List.length_eq_zero_iff.1 hlen
    subst this
    exact .rowNil _ _ _
  | row B _ _ _ cap cur hB hcap h0 hmx hsz hc =>
    cases hb
    refine (h.2 cx.w0 B cap cur hG hB hcap h0 hmx hsz fun k hk => ?_).mono fun en w' ⟨he, hg, hk, cur', hB', hs', hc'⟩ => ?_
    · have := hc k hk
      rw [encL_flat hflat] at this
      have hk2 : k < (valsL τ l).length := by rw [valsL_length hflat]; exact hk
      have e1 : ((valsL τ l).map RV.v).getD k .undef = .v ((valsL τ l).getD k Go.undef) := by simp [hk2]
      rw [e1] at this
      exact repR_v_inv' this
    · subst he
      have hhb : hblk (.slice (some ⟨B, 0, none⟩) l.length cap) = some B := hblk_sl h0
      refine upd hg (fun B' hB2 hq => hk B' hB2 fun q => hq (by rw [hhb, q])) ?_
      have R := RepB.row (env := env.put 0 0 (.slice (some ⟨B, 0, none⟩) l.length cap)) (ok := okOf cx (env.put 0 0 (.slice (some ⟨B, 0, none⟩) l.length cap)) w') B e τ l' cap cur' hB' (by omega) h0 hmx (by rw [hs', hsz]) fun k hk => by
        rw [hlen] at hk
        rw [hc' k hk, encL_flat hflat]
        have hk2 : k < (valsL τ l').length := by rw [valsL_length hflat, hlen]; exact hk
        simp [hk2]
        exact .v _
      rw [hlen] at R
      exact R
  | _ => cases hb

theorem cell_holds {w : World} {B : Nat} {cur : Array Value} {e : TypeId} (hB : w.heap[B]? = some (.cells cur e (0, 0))) {F : Array Value} (hs : F.size ≤ cur.size) (h : ∀ k, k < F.size → cur.getD k Go.undef = F.getD k Go.undef) : Holds id w B 0 F := fun j hj => by
  have hj2 : j < cur.size := by omega
  refine ⟨?_, ?_⟩
  · have := h j hj
    simp [hj, hj2] at this
    unfold World.cell?
    simp [hB, hj2, this, hj]
  · unfold World.frozen?
    simp [hB]

theorem putRow_block {w : World} {B : Nat} {cur : Array Value} {e : TypeId} (n : Nat) (hB : w.heap[B]? = some (.cells cur e (0, 0))) (F : Array Value) (os : Array Obj) (hs : F.size ≤ cur.size) :
    let w' := grow (putRow id (Sort.ahead w n) B 0 F) os
    Grew w w' ∧ (∀ B', B' < w.heap.size → B' ≠ B → w'.heap[B']? = w.heap[B']?) ∧ ∃ cur', w'.heap[B]? = some (.cells cur' e (0, 0)) ∧ cur'.size = cur.size ∧ ∀ k, k < F.size → cur'.getD k Go.undef = F.getD k Go.undef := by
  have hlt : B < w.heap.size := (Array.getElem?_eq_some_iff.1 hB).1
  have hsz : (putRow id (Sort.ahead w n) B 0 F).heap.size = w.heap.size := by simp [putRow, mapBlock, Sort.ahead]
  have hget : ∀ B', B' < w.heap.size → (grow (putRow id (Sort.ahead w n) B 0 F) os).heap[B']? = (w.heap.modify B (onCells (putCells id 0 F)))[B']? := fun B' hB' => by
    show (_ ++ os)[B']? = _
    rw [Array.getElem?_append_left (by rw [hsz]; exact hB')]
    rfl
  refine ⟨⟨?_, rfl, rfl⟩, fun B' hB' hne => ?_, putCells id 0 F cur, ?_, by simp [putCells], fun k hk => ?_⟩
  · show _ ≤ (_ ++ os).size
    simp [hsz]
  · rw [hget B' hB', Array.getElem?_modify]
    simp [Ne.symm hne]
  · rw [hget B hlt, Array.getElem?_modify]
    simp [hB, onCells]
  · have : k < cur.size := by omega
    simp [putCells, this, hk]

/-- slices.Sort at ints -/
theorem cc_sort_int [GT P] {ρ : Ren} (L : Lays.n189 P ρ) (hf : ∃ fn c, P.funcs[ρ.f 189]? = some fn ∧ fn.body = some c ∧ (fn.name == "runtime.NumGoroutine") = false) (e : TypeId) (l : List Int) (hb : l.length < 4611686018427387904) :
    CC P (ρ.f 189) [.own 0 0] [.row e (.int .i64) l] (.tup []) [(0, .row e (.int .i64) (l.mergeSort fun x y => decide (x ≤ y)))] := by
  have hv : ∀ l : List Int, valsL (.int .i64) l = l.map (Value.int .i64) := fun l => by
    induction l with
    | nil => rfl
    | cons x l ih => simp [valsL, vals, ih]
  refine cc_inplace (τ := .int .i64) (e := e) (l := l) (xs := []) (ys := []) rfl (List.length_mergeSort l) rfl (fun _ _ _ _ i hi => by simp at hi) hf ⟨fun _ w a _ => ?_, fun w B cap cur hG hB hcap h0 hmx hsz hc => ?_⟩
  · refine (Any.slices_Sort_int_none L a 0 w).mono fun en w' ⟨he, hw⟩ => ⟨he, ?_⟩
    subst hw
    exact ⟨Grew.refl _, fun _ _ => rfl⟩
  · have hsz' : cur.size = cap := by rw [hsz]; simp [RTy.sz]
    have hF : Holds (Value.int .i64) w B 0 l.toArray := fun j hj => by
      have hj : j < l.length := by simpa using hj
      have := (cell_holds hB (F := (l.map (Value.int .i64)).toArray) (by simp; omega) fun k hk => by
        have hk : k < l.length := by simpa using hk
        have := hc k (by simpa [RTy.sz] using hk)
        rw [hv] at this
        simpa using this) j (by simpa using hj)
      simpa [hj] using this
    refine (Any.slices_Sort_int L B 0 cap l w hF (Array.getElem?_eq_some_iff.1 hB).1 hb).mono fun en w' ⟨he, n, os, hw⟩ => ⟨he, ?_⟩
    have e0 : ∀ m : List Int, putRow (Value.int .i64) (Sort.ahead w n) B 0 m.toArray = putRow id (Sort.ahead w n) B 0 (m.map (Value.int .i64)).toArray := fun m => by
      unfold putRow
      congr 1
      funext c
      unfold putCells
      refine Array.ext (by simp) fun i h1 h2 => ?_
      by_cases q : i < m.length
      · simp [q]
      · simp [q]
    rw [e0] at hw
    subst hw
    have := putRow_block n hB ((l.mergeSort fun x y => decide (x ≤ y)).map (Value.int .i64)).toArray os (by simp; omega)
    refine ⟨this.1, this.2.1, ?_⟩
    obtain ⟨cur', h1, h2, h3⟩ := this.2.2
    refine ⟨cur', h1, h2, fun k hk => ?_⟩
    rw [h3 k (by simpa [RTy.sz] using hk), hv]
    simp
end
end Go.AM
namespace Go.AM
open Go Go.Proofs Go.Shelf Go.RowKit Go.Sort
section
variable {P : Program}

theorem flatK_valsL {α : Type} [Inhabited α] {τ : RTy} (hf : τ.flat = true) (dec : α → τ.T) (hpos : 0 < τ.sz) (d : Array α) :
    Sort.flatK (fun a => vals τ (dec a)) τ.sz d = (valsL τ (d.toList.map dec)).toArray := by
  have hl : ∀ (l : List α) (j i : Nat), j < l.length → i < τ.sz → (valsL τ (l.map dec)).getD (j * τ.sz + i) Go.undef = (vals τ (dec (l.getD j default))).getD i Go.undef := fun l => by
    induction l with
    | nil => intro j i h; simp at h
    | cons x l ih =>
      intro j i hj hi
      have hv := vals_length τ (dec x) hf
      cases j with
      | zero => simp [valsL, List.getElem?_append, hv, hi]
      | succ j =>
        have := ih j i (by simpa using hj) hi
        have e1 : (j + 1) * τ.sz + i - τ.sz = j * τ.sz + i := by rw [Nat.succ_mul]; omega
        have e2 : ¬ (j + 1) * τ.sz + i < τ.sz := by rw [Nat.succ_mul]; omega
        simpa [valsL, List.getElem?_append, hv, e1, e2] using this
  refine ext_get! (by simp [Sort.size_flatK, valsL_length hf]) fun t ht => ?_
  have ht' : t < d.size * τ.sz := by simpa using ht
  rw [Sort.get_flatK _ _ _ _ ht']
  have hd : t / τ.sz < d.size := Nat.div_lt_of_lt_mul (by rw [Nat.mul_comm]; exact ht')
  have := hl d.toList (t / τ.sz) (t % τ.sz) (by simpa using hd) (Nat.mod_lt _ hpos)
  rw [Nat.mul_comm, Nat.div_add_mod] at this
  have h2 : t < (valsL τ (d.toList.map dec)).length := by rw [valsL_length hf]; simpa using ht'
  have h3 : t % τ.sz < (vals τ (dec (d.toList.getD (t / τ.sz) default))).length := by rw [vals_length _ _ hf]; exact Nat.mod_lt _ hpos
  have e4 : d[t / τ.sz]! = d.toList.getD (t / τ.sz) default := by simp [hd]
  rw [e4, getElem!_pos (valsL τ (d.toList.map dec)).toArray t (by simpa using h2)]
  show (vals τ (dec (d.toList.getD (t / τ.sz) default)))[t % τ.sz]! = _
  rw [getElem!_pos (vals τ (dec (d.toList.getD (t / τ.sz) default))) (t % τ.sz) h3]
  rw [List.getD_eq_getElem?_getD, List.getD_eq_getElem?_getD, List.getElem?_eq_getElem h2, List.getElem?_eq_getElem h3] at this
  simpa using this.symm

/-- slices.SortFunc at structs of plain data -/
theorem cc_sortFunc [GT P] {ρ : Ren} (L : SlLaysF0.n6 P ρ) (hf : ∃ fn c, P.funcs[ρ.f 6]? = some fn ∧ fn.body = some c ∧ (fn.name == "runtime.NumGoroutine") = false) {τ : RTy} (hflat : τ.flat = true) (hpos : 0 < τ.sz)
    (aE : ∀ w, (isAgg (ρ.t 24)).run P w = .ok true w) (zE : ∀ w, (Go.sizeOf (ρ.t 24)).run P w = .ok τ.sz w) (e : TypeId) {α : Type} [Inhabited α] (dec : α → τ.T) (cf : α → α → Int) (hO : SWO (ltOf cf)) (g : Nat)
    (eg : ∀ args w, (callFunc g args).run P w = .ok (.enter g args) w) (hcmp : ∀ blk n w, CmpLays P g #[] (fun a => vals τ (dec a)) τ.sz cf blk 0 n w) (d : Array α) (hsz : d.size < 4611686018427387904) (h1 : ∀ x, ∀ v ∈ vals τ (dec x), v.oneCell' = true) :
    CC P (ρ.f 6) [.own 0 0, .r (.v (.func (.func g) #[] #[]))] [.row e τ (d.toList.map dec)] (.tup []) [(0, .row e τ ((pdq (ltOf cf) d 0 d.size (Lib.bitLen d.size) true true).toList.map dec))] := by
  have hp := pdq_sorts (ltOf cf) hO d 0 d.size (Lib.bitLen d.size) true true (Nat.zero_le _) (Nat.le_refl _) (Or.inl rfl)
  have hps : (pdq (ltOf cf) d 0 d.size (Lib.bitLen d.size) true true).size = d.size := hp.1.1
  refine cc_inplace (τ := τ) (e := e) (xs := [.r (.v (.func (.func g) #[] #[]))]) (ys := [.func (.func g) #[] #[]]) hflat (by simp [hps]) rfl (fun _ _ _ u i hi hr => ?_) hf ⟨fun h0 w a _ => ?_, fun w B cap cur hG hB hcap h0 hmx hs hc => ?_⟩
  · have : i = 0 := by simpa using hi
    subst this
    simp only [List.getD_cons_zero] at hr ⊢
    exact rep_v_inv hr
  · refine (AnyF.slices_SortFunc_none L a 0 _ w).mono fun en w' ⟨he, hw⟩ => ⟨he, ?_⟩
    subst hw
    exact ⟨Grew.refl _, fun _ _ => rfl⟩
  · have hl : (d.toList.map dec).length = d.size := by simp
    rw [hl] at hc hcap ⊢
    have hle : d.size * τ.sz ≤ cur.size := by rw [hs]; exact Nat.mul_le_mul_right _ hcap
    have hF : HoldsK (fun a => vals τ (dec a)) τ.sz w B 0 d := by
      unfold HoldsK
      rw [flatK_valsL hflat dec hpos]
      refine cell_holds hB (by simp [valsL_length hflat]; exact hle) fun k hk => ?_
      have hk : k < d.size * τ.sz := by simpa [valsL_length hflat] using hk
      rw [hc k hk]
      simp
    refine (AnyQ.slices_SortFunc_eq L τ.sz aE zE (fun a => vals τ (dec a)) (fun x => vals_length _ _ hflat) h1 cf hO g #[] B 0 cap d w eg (hcmp _ _ _) hF (Array.getElem?_eq_some_iff.1 hB).1 hsz).mono fun en w' ⟨he, n, os, hw⟩ => ⟨he, ?_⟩
    unfold sortWorldK putRowK at hw
    rw [flatK_valsL hflat dec hpos] at hw
    subst hw
    have hls : (valsL τ ((pdq (ltOf cf) d 0 d.size (Lib.bitLen d.size) true true).toList.map dec)).length = d.size * τ.sz := by rw [valsL_length hflat]; simp [hps]
    have := putRow_block n hB (valsL τ ((pdq (ltOf cf) d 0 d.size (Lib.bitLen d.size) true true).toList.map dec)).toArray os (by simp [hls]; exact hle)
    refine ⟨this.1, this.2.1, ?_⟩
    obtain ⟨cur', h1, h2, h3⟩ := this.2.2
    refine ⟨cur', h1, h2, fun k hk => ?_⟩
    rw [h3 k (by simpa [hls] using hk)]
    simp
end
end Go.AM
namespace Go.AM
open Go Go.Proofs Go.Shelf Go.RowKit Go.Sort
section
variable {P : Program}
/-- plain arguments; a fresh row of one's own comes out -/
theorem cc_fresh [GT P] {f : FuncId} {xs : List Value} {e : TypeId} {τ : RTy} {l : List τ.T} (hf : ∃ fn c, P.funcs[f]? = some fn ∧ fn.body = some c ∧ (fn.name == "runtime.NumGoroutine") = false)
    (h : ∀ w : World, GT.G P w → Calls P f xs.toArray w fun en w' => ∃ v, en = .returned v ∧ Grew w w' ∧ (∀ B, B < w.heap.size → w'.heap[B]? = w.heap[B]?) ∧ (∀ ok env, RepB w' ok env v (.row e τ l)) ∧ ∀ B, hblk v = some B → w.heap.size ≤ B ∧ B < w'.heap.size) :
    CC P f (rvals xs) [] (.own 0 0) [(0, .row e τ l)] := by
  refine ⟨hf, fun cx env vs hwf hG hh hent hm hs hargs => ?_⟩
  obtain ⟨top, h1, h2, h3, h4⟩ := hG
  have hlen : ∀ l : List Value, (rvals l).length = l.length := fun l => by induction l <;> simp [rvals, *]
  have hget : ∀ (l : List Value) (i : Nat), i < l.length → (rvals l).getD i .undef = .r (.v (l.getD i Go.undef)) := fun l => by
    induction l with
    | nil => intro i h; simp at h
    | cons x l ih =>
      intro i h
      cases i with
      | zero => rfl
      | succ i => simpa [rvals] using ih i (by simpa using h)
  have hvs : vs = xs.toArray := by
    refine Array.ext (by rw [hs, hlen]; simp) fun i hi hi2 => ?_
    have hi3 : i < xs.length := by simpa using hi2
    have := hargs i (by rw [hlen]; exact hi3)
    rw [hget xs i hi3] at this
    have := rep_v_inv this
    simpa [hi, hi3] using this
  subst hvs
  have none : ∀ n, env n = none := fun n => hm.dom n rfl (hh n)
  refine (h cx.w0 (GT.keep _ _ h3 h1)).mono fun en w' ⟨v, he, hg, hfr, hr, hb⟩ => ?_
  exact ⟨v, env.put 0 0 v, he, mem_one none hh hent hg hfr hb (hr _ _), .own ⟨0, _, by simp [Env.put], Nat.le_refl _, fun _ => rfl⟩⟩

/-- slices.Grow of nil -/
theorem cc_grow [GT P] {ρ : Ren} (L : Lays8.n4 P ρ) (hf : ∃ fn c, P.funcs[ρ.f 4]? = some fn ∧ fn.body = some c ∧ (fn.name == "runtime.NumGoroutine") = false) (i0 : TypeInfo) (z : Value) (hi0 : P.info? (ρ.t 25) = some i0) (hz0 : i0.zero = some z) (τ : RTy) (hs : i0.size = τ.sz) (hzs : z.cells.size = τ.sz) (hpos : 0 < τ.sz) (hby : 0 < i0.bytes)
    (n : Nat) (hbig : n * i0.bytes ≤ 140737488355328) : CC P (ρ.f 4) [.r (.v (.slice none 0 0)), .r (.v (.int .i64 n))] [] (.own 0 0) [(0, .row (ρ.t 25) τ [])] := by
  have hn : n ≤ 140737488355328 := Nat.le_trans (Nat.le_mul_of_pos_right _ hby) hbig
  refine cc_fresh (xs := [.slice none 0 0, .int .i64 n]) hf fun w _ => ?_
  by_cases h0 : n = 0
  · subst h0
    refine (Any8.slices_Grow_room L none 0 0 0 w (Nat.le_refl _) (by omega) (by omega) (by omega)).mono fun en w' ⟨he, hw⟩ => ?_
    subst hw
    exact ⟨_, he, Grew.refl _, fun _ _ => rfl, fun _ _ => .rowNil _ _ _, fun B hB => by simp [hblk] at hB⟩
  · refine (Any8.slices_Grow_grow L i0 z hi0 hz0 (by omega) none 0 0 n [] w (Nat.le_refl _) (by omega) (by simpa using hbig) (by omega) (by simp) (fun _ => rfl) (fun a ha => by cases ha)).mono fun en w' ⟨he, hw⟩ => ?_
    have hge := grownCap_ge w (0 + n) 0 (ρ.t 25)
    have hm := grownCap_le_maxLen w (0 + n) 0 (ρ.t 25) (by unfold maxLen; omega)
    subst hw
    refine ⟨_, he, ⟨?_, rfl, rfl⟩, fun B hB => ?_, fun ok env => ?_, fun B hB => ?_⟩
    · show w.heap.size ≤ (w.heap.push _).size
      simp
    · show (w.heap.push _)[B]? = _
      rw [Array.getElem?_push]
      simp; omega
    · refine .row w.heap.size (ρ.t 25) τ [] _ _ (heap_alloc_new w.drew _) (Nat.zero_le _) (by omega) hm ?_ fun k hk => by simp at hk
      simp only [Nat.zero_add] at hge ⊢
      simp [size_zeroCells, hzs, ← Nat.add_mul]
      congr 1
      omega
    · rw [hblk_sl (by omega)] at hB
      simp at hB
      subst hB
      refine ⟨Nat.le_refl _, ?_⟩
      show _ < (w.heap.push _).size
      simp
end
end Go.AM
namespace Go.AM
open Go Go.Proofs Go.Shelf Go.RowKit Go.Sort

/-- what is asked of an element's type -/
def elemOk (P : Program) (t : TypeId) (sz b : Nat) : Bool :=
  match P.info? t with
  | some i => match i.zero with
    | some z => Nat.beq i.size sz && (Nat.beq z.cells.size sz && (Nat.beq i.bytes b && (Nat.blt 0 sz && Nat.blt 0 b)))
    | none => false
  | none => false
theorem elemOk_spec {P : Program} {t : TypeId} {sz b : Nat} (h : elemOk P t sz b = true) : ∃ i z, P.info? t = some i ∧ i.zero = some z ∧ i.size = sz ∧ z.cells.size = sz ∧ i.bytes = b ∧ 0 < sz ∧ 0 < b := by
  unfold elemOk at h
  split at h
  · rename_i i hi
    split at h
    · rename_i z hz
      simp only [Bool.and_eq_true] at h
      exact ⟨i, z, hi, hz, Nat.eq_of_beq_eq_true h.1, Nat.eq_of_beq_eq_true h.2.1, Nat.eq_of_beq_eq_true h.2.2.1, Nat.le_of_ble_eq_true h.2.2.2.1, Nat.le_of_ble_eq_true h.2.2.2.2⟩
    · cases h
  · cases h

section
variable {P : Program}
theorem cc_clone' [GT P] {ρ : Ren} (L : SlLaysE0.n41 P ρ) {τ : RTy} {b : Nat} (he : elemOk P (ρ.t 23) τ.sz b = true) (z23 : ∀ w, (Go.sizeOf (ρ.t 23)).run P w = .ok τ.sz w)
    (hf : ∃ fn c, P.funcs[ρ.f 41]? = some fn ∧ fn.body = some c ∧ (fn.name == "runtime.NumGoroutine") = false) (l : List τ.T) (hbig : l.length * b ≤ 140737488355328) : CC P (ρ.f 41) [.r (.ro τ l)] [] (.own 0 0) [(0, .row (ρ.t 23) τ l)] := by
  obtain ⟨i, z, h1, h2, h3, h4, h5, h6, h7⟩ := elemOk_spec he
  subst h5
  exact cc_clone L h1 h2 h3 h4 h6 h7 z23 hf l hbig
theorem cc_grow' [GT P] {ρ : Ren} (L : Lays8.n4 P ρ) (hf : ∃ fn c, P.funcs[ρ.f 4]? = some fn ∧ fn.body = some c ∧ (fn.name == "runtime.NumGoroutine") = false) (τ : RTy) {b : Nat} (he : elemOk P (ρ.t 25) τ.sz b = true)
    (n : Int) (h0 : 0 ≤ n) (hbig : n.toNat * b ≤ 140737488355328) : CC P (ρ.f 4) [.r (.v (.slice none 0 0)), .r (.v (.int .i64 n))] [] (.own 0 0) [(0, .row (ρ.t 25) τ [])] := by
  obtain ⟨i, z, h1, h2, h3, h4, h5, h6, h7⟩ := elemOk_spec he
  subst h5
  obtain ⟨m, rfl⟩ := Int.eq_ofNat_of_zero_le h0
  exact cc_grow L hf i z h1 h2 τ h3 h4 h6 h7 m (by simpa using hbig)

/-- ints that a comparison by difference takes -/
def SmallI (x : Int) : Prop := 0 ≤ x ∧ x ≤ 4611686018427387904
instance (x : Int) : Decidable (SmallI x) := inferInstanceAs (Decidable (_ ∧ _))
abbrev SPair : Type := {x : Int × Int // SmallI x.1}
instance : Inhabited SPair := ⟨⟨(0, 0), by decide⟩⟩
def toSP : List (Int × Int) → List SPair
  | [] => []
  | x :: l => if h : SmallI x.1 then ⟨x, h⟩ :: toSP l else toSP l
theorem toSP_val : ∀ l : List (Int × Int), (∀ x ∈ l, SmallI x.1) → (toSP l).map (·.1) = l
  | [], _ => rfl
  | x :: l, h => by
    have h1 : SmallI x.1 := h x (by simp)
    simp [toSP, h1, toSP_val l fun y hy => h y (by simp [hy])]
def spCmp (x y : SPair) : Int := x.1.1 - y.1.1
theorem spCmp_lt (x y : SPair) : ltOf spCmp x y = decide (x.1.1 < y.1.1) := by
  unfold ltOf spCmp
  by_cases h : x.1.1 < y.1.1
  · rw [decide_eq_true h, decide_eq_true (by omega)]
  · rw [decide_eq_false h, decide_eq_false (by omega)]
theorem spCmp_swo : SWO (ltOf spCmp) where
  irrefl x := by rw [spCmp_lt]; simp
  trans x y z h1 h2 := by rw [spCmp_lt] at *; rw [decide_eq_true_iff] at *; omega
  ntrans x y z h1 h2 := by rw [spCmp_lt] at *; rw [decide_eq_false_iff_not] at *; omega
/-- pairs by their first numbers, as Go's sort lays them -/
def sortSP (l : List (Int × Int)) : List (Int × Int) := (pdq (ltOf spCmp) (toSP l).toArray 0 (toSP l).toArray.size (Lib.bitLen (toSP l).toArray.size) true true).toList.map (·.1)
end

theorem perm_sortSP {l : List (Int × Int)} (h : ∀ x ∈ l, SmallI x.1) : (sortSP l).Perm l := by
  have hp := (pdq_sorts (ltOf spCmp) spCmp_swo (toSP l).toArray 0 (toSP l).toArray.size (Lib.bitLen (toSP l).toArray.size) true true (Nat.zero_le _) (Nat.le_refl _) (Or.inl rfl)).1
  have h3 := hp.2.2
  have e1 : ∀ (d : Array SPair) (n : Nat), d.size = n → d.extract 0 n = d := fun d n hn => by subst hn; exact Array.extract_size
  rw [e1 _ _ hp.1, e1 _ _ rfl] at h3
  have := h3.map (fun x : SPair => x.1)
  unfold sortSP
  refine this.trans ?_
  show (List.map (fun x : SPair => x.1) (toSP l)).Perm l
  rw [toSP_val l h]

theorem sorted_sortSP {l : List (Int × Int)} : (sortSP l).Pairwise fun x y => x.1 ≤ y.1 := by
  have hp := pdq_sorts (ltOf spCmp) spCmp_swo (toSP l).toArray 0 (toSP l).toArray.size (Lib.bitLen (toSP l).toArray.size) true true (Nat.zero_le _) (Nat.le_refl _) (Or.inl rfl)
  have hs := hp.1.1
  have h := hp.2
  unfold sortSP
  generalize pdq (ltOf spCmp) (toSP l).toArray 0 (toSP l).toArray.size (Lib.bitLen (toSP l).toArray.size) true true = d at hs h
  rw [List.pairwise_map, List.pairwise_iff_getElem]
  intro i j hi hj hij
  have := h i j (Nat.zero_le _) hij (by rw [← hs]; simpa using hj)
  have hi' : i < d.size := by simpa using hi
  have hj' : j < d.size := by simpa using hj
  rw [getElem!_pos d i hi', getElem!_pos d j hj'] at this
  rw [spCmp_lt, decide_eq_false_iff_not] at this
  simp only [Array.getElem_toList]
  omega
end Go.AM
/-
  DERIVED: THE SHELF's CONTRACTS AT THIS DUMP, IN PLAIN WORDS (tools/lay-plain.mjs out of 'TryShelf.lean', which tools/lay-shelf.mjs wrote): THE SAME DECLARATIONS UNDER THE SAME NAMES: 'import', 'namespace', 'open', 'def', 'theorem' AND NOTHING ELSE: no command of the shelf's: FOR A HAND-IN. Each laying: the table of numbers ('.._ren') and one theorem, a field a fact of the dump's own or the kernel's comparison; each contract: ONE APPLICATION.
-/
namespace Go.Proofs
open Go.Shelf
def Try.sort_int_ren : Go.Shelf.Ren := ⟨fun | 189 => 63 | 125 => 65 | 257 => 67 | 128 => 76 | 129 => 77 | 294 => 78 | 295 => 79 | 296 => 80 | 297 => 81 | 298 => 82 | 299 => 83 | 216 => 84 | 300 => 85 | 301 => 86 | 328 => 92 | 329 => 88 | 330 => 89 | 331 => 93 | 332 => 94 | 215 => 95 | 343 => 97 | n => n, fun | 28 => 47 | 3 => 3 | 46 => 118 | 0 => 0 | 51 => 130 | 53 => 132 | 4 => 4 | 183 => 124 | 182 => 123 | 131 => 88 | 5 => 5 | 9 => 9 | 218 => 139 | 222 => 143 | 228 => 147 | 229 => 72 | n => n, fun | n => n⟩
theorem Try.sort_int : Go.Proofs.Lays.n189 Try.prog Try.sort_int_ren := {
  mixed := by kernel_rfl
  f125 := Try.func65.trans (congrArg some (by kernel_rfl))
  f128 := Try.func76.trans (congrArg some (by kernel_rfl))
  f129 := Try.func77.trans (congrArg some (by kernel_rfl))
  f189 := Try.func63.trans (congrArg some (by kernel_rfl))
  f215 := Try.func95.trans (congrArg some (by kernel_rfl))
  f216 := Try.func84.trans (congrArg some (by kernel_rfl))
  f257 := Try.func67.trans (congrArg some (by kernel_rfl))
  f294 := Try.func78.trans (congrArg some (by kernel_rfl))
  f295 := Try.func79.trans (congrArg some (by kernel_rfl))
  f296 := Try.func80.trans (congrArg some (by kernel_rfl))
  f297 := Try.func81.trans (congrArg some (by kernel_rfl))
  f298 := Try.func82.trans (congrArg some (by kernel_rfl))
  f299 := Try.func83.trans (congrArg some (by kernel_rfl))
  f300 := Try.func85.trans (congrArg some (by kernel_rfl))
  f301 := Try.func86.trans (congrArg some (by kernel_rfl))
  f328 := Try.func92.trans (congrArg some (by kernel_rfl))
  f329 := Try.func88.trans (congrArg some (by kernel_rfl))
  f330 := Try.func89.trans (congrArg some (by kernel_rfl))
  f331 := Try.func93.trans (congrArg some (by kernel_rfl))
  f332 := Try.func94.trans (congrArg some (by kernel_rfl))
  f343 := Try.func97.trans (congrArg some (by kernel_rfl))
  t0 := Try.underlying0
  a0 := Try.isAgg0
  z0 := Try.sizeOf0
  v0 := Try.zeroValue0
  t3 := Try.underlying3
  a3 := Try.isAgg3
  z3 := Try.sizeOf3
  v3 := Try.zeroValue3
  t4 := Try.underlying4
  a4 := Try.isAgg4
  z4 := Try.sizeOf4
  v4 := Try.zeroValue4
  t5 := Try.underlying5
  a5 := Try.isAgg5
  z5 := Try.sizeOf5
  v5 := Try.zeroValue5
  t9 := Try.underlying9
  a9 := Try.isAgg9
  z9 := Try.sizeOf9
  v9 := Try.zeroValue9
  t28 := Try.underlying47
  a28 := Try.isAgg47
  z28 := Try.sizeOf47
  v28 := Try.zeroValue47
  t46 := Try.underlying118
  a46 := Try.isAgg118
  z46 := Try.sizeOf118
  v46 := Try.zeroValue118
  t51 := Try.underlying130
  a51 := Try.isAgg130
  z51 := Try.sizeOf130
  v51 := Try.zeroValue130
  t53 := Try.underlying132
  a53 := Try.isAgg132
  z53 := Try.sizeOf132
  v53 := Try.zeroValue132
  t131 := Try.underlying88
  a131 := Try.isAgg88
  z131 := Try.sizeOf88
  v131 := Try.zeroValue88
  t182 := Try.underlying123
  a182 := Try.isAgg123
  z182 := Try.sizeOf123
  v182 := Try.zeroValue123
  t183 := Try.underlying124
  a183 := Try.isAgg124
  z183 := Try.sizeOf124
  v183 := Try.zeroValue124
  t218 := Try.underlying139
  a218 := Try.isAgg139
  z218 := Try.sizeOf139
  v218 := Try.zeroValue139
  t222 := Try.underlying143
  a222 := Try.isAgg143
  z222 := Try.sizeOf143
  v222 := Try.zeroValue143
  t228 := Try.underlying147
  a228 := Try.isAgg147
  z228 := Try.sizeOf147
  v228 := Try.zeroValue147
  t229 := Try.underlying72
  a229 := Try.isAgg72
  z229 := Try.sizeOf72
  v229 := Try.zeroValue72 }
def Try.clone_run_ren : Go.Shelf.Ren := ⟨fun | 41 => 52 | n => n, fun | 22 => 36 | 23 => 57 | 4 => 4 | n => n, fun | n => n⟩
theorem Try.clone_run : Go.Proofs.SlLaysE0.n41 Try.prog Try.clone_run_ren := {
  mixed := by kernel_rfl
  f41 := ⟨Try.f52.name, by decide, Try.func52.trans (congrArg some (by kernel_rfl))⟩
  t4 := Try.underlying4
  a4 := Try.isAgg4
  z4 := Try.sizeOf4
  v4 := Try.zeroValue4
  t22 := Try.underlying36
  a22 := Try.isAgg36
  z22 := Try.sizeOf36
  v22 := Try.zeroValue36 }
def Try.clone_span_ren : Go.Shelf.Ren := ⟨fun | 41 => 59 | n => n, fun | 22 => 95 | 23 => 105 | 4 => 4 | n => n, fun | n => n⟩
theorem Try.clone_span : Go.Proofs.SlLaysE0.n41 Try.prog Try.clone_span_ren := {
  mixed := by kernel_rfl
  f41 := ⟨Try.f59.name, by decide, Try.func59.trans (congrArg some (by kernel_rfl))⟩
  t4 := Try.underlying4
  a4 := Try.isAgg4
  z4 := Try.sizeOf4
  v4 := Try.zeroValue4
  t22 := Try.underlying95
  a22 := Try.isAgg95
  z22 := Try.sizeOf95
  v22 := Try.zeroValue95 }
def Try.sort_span_ren : Go.Shelf.Ren := ⟨fun | 6 => 60 | 15 => 65 | 14 => 64 | 28 => 76 | 29 => 77 | 20 => 68 | 21 => 69 | 22 => 70 | 23 => 71 | 24 => 72 | 25 => 73 | 26 => 74 | 27 => 75 | 46 => 87 | 47 => 88 | 48 => 89 | 49 => 90 | 50 => 91 | 57 => 96 | n => n, fun | 22 => 95 | 24 => 105 | 25 => 113 | 3 => 3 | 39 => 118 | 0 => 0 | 53 => 130 | 55 => 132 | 4 => 4 | 46 => 124 | 45 => 123 | 50 => 88 | 5 => 5 | 9 => 9 | 66 => 139 | 70 => 143 | 76 => 147 | 77 => 72 | n => n, fun | n => n⟩
theorem Try.sort_span : Go.Proofs.SlLaysF0.n6 Try.prog Try.sort_span_ren := {
  mixed := by kernel_rfl
  f6 := ⟨Try.f60.name, by decide, Try.func60.trans (congrArg some (by kernel_rfl))⟩
  f14 := ⟨Try.f64.name, by decide, Try.func64.trans (congrArg some (by kernel_rfl))⟩
  f15 := Try.func65.trans (congrArg some (by kernel_rfl))
  f20 := ⟨Try.f68.name, by decide, Try.func68.trans (congrArg some (by kernel_rfl))⟩
  f21 := ⟨Try.f69.name, by decide, Try.func69.trans (congrArg some (by kernel_rfl))⟩
  f22 := ⟨Try.f70.name, by decide, Try.func70.trans (congrArg some (by kernel_rfl))⟩
  f23 := ⟨Try.f71.name, by decide, Try.func71.trans (congrArg some (by kernel_rfl))⟩
  f24 := ⟨Try.f72.name, by decide, Try.func72.trans (congrArg some (by kernel_rfl))⟩
  f25 := ⟨Try.f73.name, by decide, Try.func73.trans (congrArg some (by kernel_rfl))⟩
  f26 := ⟨Try.f74.name, by decide, Try.func74.trans (congrArg some (by kernel_rfl))⟩
  f27 := ⟨Try.f75.name, by decide, Try.func75.trans (congrArg some (by kernel_rfl))⟩
  f28 := Try.func76.trans (congrArg some (by kernel_rfl))
  f29 := Try.func77.trans (congrArg some (by kernel_rfl))
  f46 := ⟨Try.f87.name, by decide, Try.func87.trans (congrArg some (by kernel_rfl))⟩
  f47 := Try.func88.trans (congrArg some (by kernel_rfl))
  f48 := Try.func89.trans (congrArg some (by kernel_rfl))
  f49 := ⟨Try.f90.name, by decide, Try.func90.trans (congrArg some (by kernel_rfl))⟩
  f50 := ⟨Try.f91.name, by decide, Try.func91.trans (congrArg some (by kernel_rfl))⟩
  f57 := ⟨Try.f96.name, by decide, Try.func96.trans (congrArg some (by kernel_rfl))⟩
  t0 := Try.underlying0
  a0 := Try.isAgg0
  z0 := Try.sizeOf0
  v0 := Try.zeroValue0
  t3 := Try.underlying3
  a3 := Try.isAgg3
  z3 := Try.sizeOf3
  v3 := Try.zeroValue3
  t4 := Try.underlying4
  a4 := Try.isAgg4
  z4 := Try.sizeOf4
  v4 := Try.zeroValue4
  t5 := Try.underlying5
  a5 := Try.isAgg5
  z5 := Try.sizeOf5
  v5 := Try.zeroValue5
  t9 := Try.underlying9
  a9 := Try.isAgg9
  z9 := Try.sizeOf9
  v9 := Try.zeroValue9
  t22 := Try.underlying95
  a22 := Try.isAgg95
  z22 := Try.sizeOf95
  v22 := Try.zeroValue95
  t25 := Try.underlying113
  a25 := Try.isAgg113
  z25 := Try.sizeOf113
  v25 := Try.zeroValue113
  t39 := Try.underlying118
  a39 := Try.isAgg118
  z39 := Try.sizeOf118
  v39 := Try.zeroValue118
  t45 := Try.underlying123
  a45 := Try.isAgg123
  z45 := Try.sizeOf123
  v45 := Try.zeroValue123
  t46 := Try.underlying124
  a46 := Try.isAgg124
  z46 := Try.sizeOf124
  v46 := Try.zeroValue124
  t50 := Try.underlying88
  a50 := Try.isAgg88
  z50 := Try.sizeOf88
  v50 := Try.zeroValue88
  t53 := Try.underlying130
  a53 := Try.isAgg130
  z53 := Try.sizeOf130
  v53 := Try.zeroValue130
  t55 := Try.underlying132
  a55 := Try.isAgg132
  z55 := Try.sizeOf132
  v55 := Try.zeroValue132
  t66 := Try.underlying139
  a66 := Try.isAgg139
  z66 := Try.sizeOf139
  v66 := Try.zeroValue139
  t70 := Try.underlying143
  a70 := Try.isAgg143
  z70 := Try.sizeOf143
  v70 := Try.zeroValue143
  t76 := Try.underlying147
  a76 := Try.isAgg147
  z76 := Try.sizeOf147
  v76 := Try.zeroValue147
  t77 := Try.underlying72
  a77 := Try.isAgg72
  z77 := Try.sizeOf72
  v77 := Try.zeroValue72 }
def Try.grow_span_ren : Go.Shelf.Ren := ⟨fun | 4 => 66 | n => n, fun | 22 => 95 | 25 => 105 | 3 => 3 | 4 => 4 | 9 => 9 | 20 => 20 | 0 => 0 | 2 => 3 | n => n, fun | n => n⟩
theorem Try.grow_span : Go.Proofs.Lays8.n4 Try.prog Try.grow_span_ren := {
  mixed := by kernel_rfl
  f4 := ⟨Try.f66.name, by decide, Try.func66.trans (congrArg some (by kernel_rfl))⟩
  t0 := Try.underlying0
  a0 := Try.isAgg0
  z0 := Try.sizeOf0
  v0 := Try.zeroValue0
  t3 := Try.underlying3
  a3 := Try.isAgg3
  z3 := Try.sizeOf3
  v3 := Try.zeroValue3
  t4 := Try.underlying4
  a4 := Try.isAgg4
  z4 := Try.sizeOf4
  v4 := Try.zeroValue4
  t9 := Try.underlying9
  a9 := Try.isAgg9
  z9 := Try.sizeOf9
  v9 := Try.zeroValue9
  t20 := Try.underlying20
  a20 := Try.isAgg20
  z20 := Try.sizeOf20
  v20 := Try.zeroValue20
  t22 := Try.underlying95
  a22 := Try.isAgg95
  z22 := Try.sizeOf95
  v22 := Try.zeroValue95 }
end Go.Proofs
namespace Go.AM
open Go Go.Proofs Go.IntKind
set_option linter.unusedVariables false
noncomputable section
abbrev R_u55 : Type := List (T7).T
def res_u55 (r : R_u55) : AV := .own 0 0
def bo_u55 (s_ : List (T7).T) (r : R_u55) : List (Nat × Blk) := [(0, .row 105 T7 r)]
def args_u55 (s_ : List (T7).T) : List AV := [.r (.ro T7 s_)]
def bin_u55 (s_ : List (T7).T) : List Blk := []
def f_u55 (k : Nat) (s_ : List (T7).T) : Option R_u55 := if s_.length * 16 ≤ 140737488355328 then some s_ else none
def v_u55 (k : Nat) (s_ : List (T7).T) : R_u55 := (f_u55 k s_).getD []
theorem of_u55 (k : Nat) (s_ : List (T7).T) (r : R_u55) (h : f_u55 k s_ = some r) : CC Try.prog 59 (args_u55 s_) (bin_u55 s_) (res_u55 r) (bo_u55 s_ r) := by
 unfold f_u55 at h
 by_cases q : s_.length * 16 ≤ 140737488355328
 ·rw [if_pos q] at h
  cases h
  exact cc_clone' (τ := T7) Try.clone_span (by kernel_rfl) Try.sizeOf105 ⟨Try.f59, _, Try.func59, rfl, by kernel_rfl⟩ s_ q
 ·rw [if_neg q] at h; cases h
theorem cc_u55 (k : Nat) (s_ : List (T7).T) (h : (f_u55 k s_).isSome = true) : CC Try.prog 59 (args_u55 s_) (bin_u55 s_) (res_u55 (v_u55 k s_)) (bo_u55 s_ (v_u55 k s_)) := by
 cases e : f_u55 k s_ with
 | none => rw [e] at h; cases h
 | some r => rw [show v_u55 k s_ = r by simp [v_u55, e]]; exact of_u55 k s_ r e

end
end Go.AM
namespace Go.AM
open Go Go.Proofs Go.IntKind
set_option linter.unusedVariables false
noncomputable section
abbrev R_u58 : Type := List (T7).T
def res_u58 (r : R_u58) : AV := .tup []
def bo_u58 (x_ : List (T7).T) (r : R_u58) : List (Nat × Blk) := [(0, .row 105 T7 r)]
def args_u58 (x_ : List (T7).T) : List AV := [.own 0 0, .r (.v (.func (.func 61) #[] #[]))]
def bin_u58 (x_ : List (T7).T) : List Blk := [.row 105 T7 x_]
theorem cmp_ (x y : SPair) (W : World) : Calls Try.prog 61 #[.agg #[.int .i64 x.1.1, .int .i64 x.1.2], .agg #[.int .i64 y.1.1, .int .i64 y.1.2]] W fun e w' => e = .returned (.int .i64 (spCmp x y)) ∧ ∃ q os', w' = Sort.grow (W.drewN q) os' := by
 have hw : RowKit.wrap64 (x.1.1 - y.1.1) = spCmp x y := by
  have h1 := x.2; have h2 := y.2
  unfold SmallI at h1 h2
  unfold RowKit.wrap64 spCmp
  omega
 go_enter Try.func61, Try.ntmps61
 go_wp2
 go_ret
 exact ⟨by rw [← hw]; rfl, 0, _, by rw [Sort.alloc_eq_grow, Sort.alloc_eq_grow, Sort.grow_grow]; rfl⟩
def f_u58 (k : Nat) (x_ : List (T7).T) : Option R_u58 := if (x_.all fun x => decide (SmallI x.1)) = true ∧ x_.length < 4611686018427387904 then some (sortSP x_) else none
def v_u58 (k : Nat) (x_ : List (T7).T) : R_u58 := (f_u58 k x_).getD []
theorem of_u58 (k : Nat) (x_ : List (T7).T) (r : R_u58) (h : f_u58 k x_ = some r) : CC Try.prog 60 (args_u58 x_) (bin_u58 x_) (res_u58 r) (bo_u58 x_ r) := by
 unfold f_u58 at h
 by_cases q : (x_.all fun x => decide (SmallI x.1)) = true ∧ x_.length < 4611686018427387904
 ·rw [if_pos q] at h
  cases h
  have h1 : (toSP x_).map (·.1) = x_ := toSP_val x_ fun x hx => by simpa using List.all_eq_true.1 q.1 x hx
  have hl : (toSP x_).toArray.size = x_.length := by
   have := congrArg List.length h1
   simpa using this
  have := cc_sortFunc (P := Try.prog) Try.sort_span ⟨Try.f60, _, Try.func60, rfl, by kernel_rfl⟩ (τ := T7) rfl (by decide) Try.isAgg105 Try.sizeOf105 105 (α := SPair) (fun x => x.1) spCmp spCmp_swo 61 (enters_of Try.func61 (by kernel_rfl) rfl) (fun blk n w => fun _ _ _ _ x y => cmp_ x y _) (toSP x_).toArray (by rw [hl]; exact q.2) (fun x v hv => by simp [vals] at hv; rcases hv with rfl | rfl <;> rfl)
  have e2 : (toSP x_).toArray.toList.map (fun x : SPair => x.1) = x_ := h1
  rw [e2] at this
  exact this
 ·rw [if_neg q] at h; cases h
theorem cc_u58 (k : Nat) (x_ : List (T7).T) (h : (f_u58 k x_).isSome = true) : CC Try.prog 60 (args_u58 x_) (bin_u58 x_) (res_u58 (v_u58 k x_)) (bo_u58 x_ (v_u58 k x_)) := by
 cases e : f_u58 k x_ with
 | none => rw [e] at h; cases h
 | some r => rw [show v_u58 k x_ = r by simp [v_u58, e]]; exact of_u58 k x_ r e

end
end Go.AM
namespace Go.AM
open Go Go.Proofs Go.IntKind
set_option linter.unusedVariables false
noncomputable section
abbrev R_u68 : Type := Int
def res_u68 (r : R_u68) : AV := .r (.v (.int .i64 r))
def bo_u68 (a_ : T7.T) (b_ : T7.T) (r : R_u68) : List (Nat × Blk) := []
def f_u68 (k : Nat) (a_ : T7.T) (b_ : T7.T) : Option R_u68 :=
 some (i64.wrap (a_.1 - b_.1))
def v_u68 (k : Nat) (a_ : T7.T) (b_ : T7.T) : R_u68 := (f_u68 k a_ b_).getD 0
end
end Go.AM
namespace Go.AM
open Go Go.Proofs Go.IntKind
set_option linter.unusedVariables false
noncomputable section
abbrev R_u67 : Type := List (T7).T
def res_u67 (r : R_u67) : AV := .r (.ro T7 r)
def bo_u67 (l_ : List (T7).T) (r : R_u67) : List (Nat × Blk) := []
def args_u67 (l_ : List (T7).T) : List AV := [.r (.ro T7 l_)]
def bin_u67 (l_ : List (T7).T) : List Blk := []
def st_u67_6 (y0 : Int) (y1 : Int) (y2 : List (T7).T) (y3 : T7.T) (y4 : List (T7).T) : St := ⟨mkS 66 [(3, .own 1000000 0), (4, .ptr 1000001 0 0), (12, .own 1000002 0), (13, .r (.v (.int .i64 y0))), (14, .r (.v (.int .i64 y1)))], [(1000000, 0, .row 105 T7 y2), (1000001, 0, .var 105 (rvs (enc T7 y3))), (1000002, 0, .row 105 T7 y4)]⟩
def f_u67_6 (k : Nat) : Nat → Int → Int → List (T7).T → T7.T → List (T7).T → Option R_u67
 | 0, _, _, _, _, _ => none
 | j + 1, y0, y1, y2, y3, y4 =>
 bif (decide (y1 < y0)) then
 if (0 ≤ y1) ∧ (y1 < (↑y4.length : Int)) then
 bif (decide ((y4.getD y1.toNat T7.dflt).1 ≥ (y4.getD y1.toNat T7.dflt).2) || eqT T7 (y4.getD y1.toNat T7.dflt) y3) then
 f_u67_6 k j y0 ((i64.wrap (y1 + 1))) y2 ((y4.getD y1.toNat T7.dflt)) y4
 else
 if (decide ((↑y2.length : Int) > (0 : Int)) = true → (0 : Int) ≤ i64.wrap ((↑y2.length : Int) - (1 : Int))) ∧ (decide ((↑y2.length : Int) > (0 : Int)) = true → i64.wrap ((↑y2.length : Int) - (1 : Int)) < (↑y2.length : Int)) then
 bif (decide ((↑y2.length : Int) > (0 : Int)) && decide ((y4.getD y1.toNat T7.dflt).1 ≤ (y2.getD (i64.wrap ((↑y2.length : Int) - (1 : Int))).toNat T7.dflt).2)) then
 if ((0 : Int) ≤ i64.wrap ((↑y2.length : Int) - (1 : Int))) ∧ (i64.wrap ((↑y2.length : Int) - (1 : Int)) < (↑y2.length : Int)) ∧ ((0 : Int) ≤ i64.wrap ((↑y2.length : Int) - (1 : Int))) ∧ (i64.wrap ((↑y2.length : Int) - (1 : Int)) < (↑y2.length : Int)) then
 f_u67_6 k j y0 ((i64.wrap (y1 + 1))) ((y2.set (i64.wrap ((↑y2.length : Int) - 1)).toNat ((y2.getD (i64.wrap ((↑y2.length : Int) - 1)).toNat T7.dflt).1, if (y4.getD y1.toNat T7.dflt).2 > (y2.getD (i64.wrap ((↑y2.length : Int) - 1)).toNat T7.dflt).2 then (y4.getD y1.toNat T7.dflt).2 else (y2.getD (i64.wrap ((↑y2.length : Int) - 1)).toNat T7.dflt).2))) ((y4.getD y1.toNat T7.dflt)) y4
 else none
 else
 if ((y2.length + [y4.getD y1.toNat T7.dflt].length) * (16 : Nat) ≤ (140737488355328 : Nat)) then
 f_u67_6 k j y0 ((i64.wrap (y1 + 1))) ((y2 ++ [y4.getD y1.toNat T7.dflt])) ((y4.getD y1.toNat T7.dflt)) y4
 else none
 else none
 else none
 else
 some y2
def f_u67 (k : Nat) (l_ : List (T7).T) : Option R_u67 :=
 if ((f_u55 k l_).isSome = true) then
 if ((f_u58 k (v_u55 k l_)).isSome = true) then
 f_u67_6 k k ((↑ (List.length (v_u58 k (v_u55 k l_))) : Int)) 0 ([]) ((0, 0)) ((v_u58 k (v_u55 k l_)))
 else none
 else none
def v_u67 (k : Nat) (l_ : List (T7).T) : R_u67 := (f_u67 k l_).getD []
def K_u67 (k : Nat) : Calld := ⟨fun g xs => match g with
 | 59 => match xs with
  | [_] => some [false]
  | _ => none
 | 60 => match xs with
  | [.own _ _, .r (.v (.func (.func 61) _ _))] => some [true, false]
  | _ => none
 | 61 => match xs with
  | [_, _] => some [false, false]
  | _ => none
 | _ => none, fun g xs bs => match g with
 | 59 => match xs, bs with
  | [.r (.ro ts__ qs_)], [] => (castL ts__ T7 qs_).bind fun s_ => some (.one (res_u55 (v_u55 k s_), bo_u55 s_ (v_u55 k s_)))
  | _, _ => none
 | 60 => match xs, bs with
  | [.own 0 0, .r (.v (.func (.func 61) _ _))], [.row 105 tx__ qx_] => (castL tx__ T7 qx_).bind fun x_ => some (.one (res_u58 (v_u58 k x_), bo_u58 x_ (v_u58 k x_)))
  | _, _ => none
 | 61 => match xs, bs with
  | [.agg qa_, .agg qb_], [] => (decS [] T7 qa_).bind fun a_ => (decS [] T7 qb_).bind fun b_ => some (.one (res_u68 (v_u68 k a_ b_), bo_u68 a_ b_ (v_u68 k a_ b_)))
  | _, _ => none
 | _ => none⟩
theorem ev_u67 (k : Nat) (l_ : List (T7).T) : ∀ j, (∀ (y0 : Int) (y1 : Int) (y2 : List (T7).T) (y3 : T7.T) (y4 : List (T7).T) (r : R_u67), f_u67_6 k j y0 y1 y2 y3 y4 = some r → Ev Try.prog Try.f56 0 (placeAt Try.f56 6) (st_u67_6 y0 y1 y2 y3 y4) (res_u67 r) (bo_u67 l_ r))
 | 0 => by
  intros; rename_i h; simp [f_u67_6] at h
 | j + 1 => by
  have ih := ev_u67 k l_ j
  ·intro y0 y1 y2 y3 y4 r h
   rw [f_u67_6] at h
   refine Ev.tree hm (R := Rt) (K := (K_u67 k)) (l := []) (C := [(6, [.row 3 105 T7, .autoB [3, 4, 12, 13, 14] false []])]) (E := [.frz 2 false (RTy.list T7), .autoB [2] true []]) (n := 1000) (T := .test ((decide (y1 < y0))) (.need [0 ≤ y1, y1 < (↑y4.length : Int)] (.test ((decide ((y4.getD y1.toNat T7.dflt).1 ≥ (y4.getD y1.toNat T7.dflt).2) || eqT T7 (y4.getD y1.toNat T7.dflt) y3)) (.cut 6 (placeAt Try.f56 6) (st_u67_6 y0 ((i64.wrap (y1 + 1))) y2 ((y4.getD y1.toNat T7.dflt)) y4)) (.need [decide ((↑y2.length : Int) > (0 : Int)) = true → (0 : Int) ≤ i64.wrap ((↑y2.length : Int) - (1 : Int)), decide ((↑y2.length : Int) > (0 : Int)) = true → i64.wrap ((↑y2.length : Int) - (1 : Int)) < (↑y2.length : Int)] (.test ((decide ((↑y2.length : Int) > (0 : Int)) && decide ((y4.getD y1.toNat T7.dflt).1 ≤ (y2.getD (i64.wrap ((↑y2.length : Int) - (1 : Int))).toNat T7.dflt).2))) (.need [(0 : Int) ≤ i64.wrap ((↑y2.length : Int) - (1 : Int)), i64.wrap ((↑y2.length : Int) - (1 : Int)) < (↑y2.length : Int), (0 : Int) ≤ i64.wrap ((↑y2.length : Int) - (1 : Int)), i64.wrap ((↑y2.length : Int) - (1 : Int)) < (↑y2.length : Int)] (.cut 6 (placeAt Try.f56 6) (st_u67_6 y0 ((i64.wrap (y1 + 1))) ((y2.set (i64.wrap ((↑y2.length : Int) - 1)).toNat ((y2.getD (i64.wrap ((↑y2.length : Int) - 1)).toNat T7.dflt).1, if (y4.getD y1.toNat T7.dflt).2 > (y2.getD (i64.wrap ((↑y2.length : Int) - 1)).toNat T7.dflt).2 then (y4.getD y1.toNat T7.dflt).2 else (y2.getD (i64.wrap ((↑y2.length : Int) - 1)).toNat T7.dflt).2))) ((y4.getD y1.toNat T7.dflt)) y4))) (.need [(y2.length + [y4.getD y1.toNat T7.dflt].length) * (16 : Nat) ≤ (140737488355328 : Nat)] (.cut 6 (placeAt Try.f56 6) (st_u67_6 y0 ((i64.wrap (y1 + 1))) ((y2 ++ [y4.getD y1.toNat T7.dflt])) ((y4.getD y1.toNat T7.dflt)) y4))))))) (.leaf (res_u67 y2) (bo_u67 l_ y2))) (by kernel_rfl) ?_
   refine ⟨fun c => ?_, fun c => ?_⟩
   ·rw [cond_t (show ((decide (y1 < y0))) = true from c)] at h
    by_cases q : (0 ≤ y1) ∧ (y1 < (↑y4.length : Int))
    ·rw [if_pos q] at h
     refine ⟨(conjC q.1 (conjC q.2 conj0)), ?_⟩
     refine ⟨fun c => ?_, fun c => ?_⟩
     ·rw [cond_t (show ((decide ((y4.getD y1.toNat T7.dflt).1 ≥ (y4.getD y1.toNat T7.dflt).2) || eqT T7 (y4.getD y1.toNat T7.dflt) y3)) = true from c)] at h
      exact ih y0 ((i64.wrap (y1 + 1))) y2 ((y4.getD y1.toNat T7.dflt)) y4 _ h
     ·rw [cond_f (show ((decide ((y4.getD y1.toNat T7.dflt).1 ≥ (y4.getD y1.toNat T7.dflt).2) || eqT T7 (y4.getD y1.toNat T7.dflt) y3)) = false from c)] at h
      by_cases q : (decide ((↑y2.length : Int) > (0 : Int)) = true → (0 : Int) ≤ i64.wrap ((↑y2.length : Int) - (1 : Int))) ∧ (decide ((↑y2.length : Int) > (0 : Int)) = true → i64.wrap ((↑y2.length : Int) - (1 : Int)) < (↑y2.length : Int))
      ·rw [if_pos q] at h
       refine ⟨(conjC q.1 (conjC q.2 conj0)), ?_⟩
       refine ⟨fun c => ?_, fun c => ?_⟩
       ·rw [cond_t (show ((decide ((↑y2.length : Int) > (0 : Int)) && decide ((y4.getD y1.toNat T7.dflt).1 ≤ (y2.getD (i64.wrap ((↑y2.length : Int) - (1 : Int))).toNat T7.dflt).2))) = true from c)] at h
        by_cases q : ((0 : Int) ≤ i64.wrap ((↑y2.length : Int) - (1 : Int))) ∧ (i64.wrap ((↑y2.length : Int) - (1 : Int)) < (↑y2.length : Int)) ∧ ((0 : Int) ≤ i64.wrap ((↑y2.length : Int) - (1 : Int))) ∧ (i64.wrap ((↑y2.length : Int) - (1 : Int)) < (↑y2.length : Int))
        ·rw [if_pos q] at h
         refine ⟨(conjC q.1 (conjC q.2.1 (conjC q.2.2.1 (conjC q.2.2.2 conj0)))), ?_⟩
         exact ih y0 ((i64.wrap (y1 + 1))) ((y2.set (i64.wrap ((↑y2.length : Int) - 1)).toNat ((y2.getD (i64.wrap ((↑y2.length : Int) - 1)).toNat T7.dflt).1, if (y4.getD y1.toNat T7.dflt).2 > (y2.getD (i64.wrap ((↑y2.length : Int) - 1)).toNat T7.dflt).2 then (y4.getD y1.toNat T7.dflt).2 else (y2.getD (i64.wrap ((↑y2.length : Int) - 1)).toNat T7.dflt).2))) ((y4.getD y1.toNat T7.dflt)) y4 _ h
        ·rw [if_neg q] at h; cases h
       ·rw [cond_f (show ((decide ((↑y2.length : Int) > (0 : Int)) && decide ((y4.getD y1.toNat T7.dflt).1 ≤ (y2.getD (i64.wrap ((↑y2.length : Int) - (1 : Int))).toNat T7.dflt).2))) = false from c)] at h
        by_cases q : ((y2.length + [y4.getD y1.toNat T7.dflt].length) * (16 : Nat) ≤ (140737488355328 : Nat))
        ·rw [if_pos q] at h
         refine ⟨(conjC q conj0), ?_⟩
         exact ih y0 ((i64.wrap (y1 + 1))) ((y2 ++ [y4.getD y1.toNat T7.dflt])) ((y4.getD y1.toNat T7.dflt)) y4 _ h
        ·rw [if_neg q] at h; cases h
      ·rw [if_neg q] at h; cases h
    ·rw [if_neg q] at h; cases h
   ·rw [cond_f (show ((decide (y1 < y0))) = false from c)] at h
    cases h; exact ⟨rfl, rfl⟩
theorem of_u67 (k : Nat) (l_ : List (T7).T) (r : R_u67) (h : f_u67 k l_ = some r) : CC Try.prog 56 (args_u67 l_) (bin_u67 l_) (res_u67 r) (bo_u67 l_ r) := by
 refine CC.of (fn := Try.f56) (by kernel_rfl) (by kernel_rfl) (by kernel_rfl) (by kernel_rfl) ?_
 unfold f_u67 at h
 refine Ev.tree hm (R := Rt) (K := (K_u67 k)) (l := []) (C := [(6, [.row 3 105 T7, .autoB [3, 4, 12, 13, 14] false []])]) (E := [.frz 2 false (RTy.list T7), .autoB [2] true []]) (n := 1000) (T := .need [CC Try.prog 59 (args_u55 l_) (bin_u55 l_) (res_u55 (v_u55 k l_)) (bo_u55 l_ (v_u55 k l_))] (.need [CC Try.prog 60 (args_u58 (v_u55 k l_)) (bin_u58 (v_u55 k l_)) (res_u58 (v_u58 k (v_u55 k l_))) (bo_u58 (v_u55 k l_) (v_u58 k (v_u55 k l_)))] (.cut 6 (placeAt Try.f56 6) (st_u67_6 ((↑ (List.length (v_u58 k (v_u55 k l_))) : Int)) 0 ([]) ((0, 0)) ((v_u58 k (v_u55 k l_))))))) (by kernel_rfl) ?_
 by_cases q : ((f_u55 k l_).isSome = true)
 ·rw [if_pos q] at h
  refine ⟨(conjC (cc_u55 k l_ q) conj0), ?_⟩
  by_cases q : ((f_u58 k (v_u55 k l_)).isSome = true)
  ·rw [if_pos q] at h
   refine ⟨(conjC (cc_u58 k (v_u55 k l_) q) conj0), ?_⟩
   exact (ev_u67 k l_ k) ((↑ (List.length (v_u58 k (v_u55 k l_))) : Int)) 0 ([]) ((0, 0)) ((v_u58 k (v_u55 k l_))) _ h
  ·rw [if_neg q] at h; cases h
 ·rw [if_neg q] at h; cases h
theorem cc_u67 (k : Nat) (l_ : List (T7).T) (h : (f_u67 k l_).isSome = true) : CC Try.prog 56 (args_u67 l_) (bin_u67 l_) (res_u67 (v_u67 k l_)) (bo_u67 l_ (v_u67 k l_)) := by
 cases e : f_u67 k l_ with
 | none => rw [e] at h; cases h
 | some r => rw [show v_u67 k l_ = r by simp [v_u67, e]]; exact of_u67 k l_ r e

end
end Go.AM
namespace Go.AM
open Go Go.Proofs Go.IntKind
set_option linter.unusedVariables false
noncomputable section
abbrev R_u57 : Type := List (T7).T
def res_u57 (r : R_u57) : AV := .own 0 0
def bo_u57 (n_ : Int) (r : R_u57) : List (Nat × Blk) := [(0, .row 105 T7 r)]
def args_u57 (n_ : Int) : List AV := [.r (.v (Value.slice none 0 0)), .r (.v (.int .i64 n_))]
def bin_u57 (n_ : Int) : List Blk := []
def f_u57 (k : Nat) (n_ : Int) : Option R_u57 := if 0 ≤ n_ ∧ n_.toNat * 16 ≤ 140737488355328 then some [] else none
def v_u57 (k : Nat) (n_ : Int) : R_u57 := (f_u57 k n_).getD []
theorem of_u57 (k : Nat) (n_ : Int) (r : R_u57) (h : f_u57 k n_ = some r) : CC Try.prog 66 (args_u57 n_) (bin_u57 n_) (res_u57 r) (bo_u57 n_ r) := by
 unfold f_u57 at h
 by_cases q : 0 ≤ n_ ∧ n_.toNat * 16 ≤ 140737488355328
 ·rw [if_pos q] at h
  cases h
  exact cc_grow' Try.grow_span ⟨Try.f66, _, Try.func66, rfl, by kernel_rfl⟩ T7 (by kernel_rfl) n_ q.1 q.2
 ·rw [if_neg q] at h; cases h
theorem cc_u57 (k : Nat) (n_ : Int) (h : (f_u57 k n_).isSome = true) : CC Try.prog 66 (args_u57 n_) (bin_u57 n_) (res_u57 (v_u57 k n_)) (bo_u57 n_ (v_u57 k n_)) := by
 cases e : f_u57 k n_ with
 | none => rw [e] at h; cases h
 | some r => rw [show v_u57 k n_ = r by simp [v_u57, e]]; exact of_u57 k n_ r e

end
end Go.AM
namespace Go.AM
open Go Go.Proofs Go.IntKind
set_option linter.unusedVariables false
noncomputable section
abbrev R_u56 : Type := List (T7).T
def res_u56 (r : R_u56) : AV := .own 0 0
def bo_u56 (slices_ : List (RTy.list T7).T) (r : R_u56) : List (Nat × Blk) := [(0, .row 105 T7 r)]
def args_u56 (slices_ : List (RTy.list T7).T) : List AV := [.r (.ro (RTy.list T7) slices_)]
def bin_u56 (slices_ : List (RTy.list T7).T) : List Blk := []
def st_u56_3 (y0 : List (T7.list).T) (y1 : Int) (y2 : List (T7.list).T) (y3 : Int) (y4 : Int) : St := ⟨mkS 36 [(0, .r (.ro T7.list y0)), (3, .r (.v (.int .i64 y1))), (9, .r (.ro T7.list y2)), (10, .r (.v (.int .i64 y3))), (11, .r (.v (.int .i64 y4)))], []⟩
def st_u56_11 (y0 : List (T7.list).T) (y1 : Int) (y2 : Int) (y3 : List (T7).T) : St := ⟨mkS 36 [(6, .own 1000000 0), (25, .r (.ro T7.list y0)), (26, .r (.v (.int .i64 y1))), (27, .r (.v (.int .i64 y2)))], [(1000000, 0, .row 105 T7 y3)]⟩
mutual
def f_u56_3 (k : Nat) : Nat → List (T7.list).T → Int → List (T7.list).T → Int → Int → Option R_u56
 | 0, _, _, _, _, _ => none
 | j + 1, y0, y1, y2, y3, y4 =>
 bif (decide (y4 < y3)) then
 if (0 ≤ y4) ∧ (y4 < (↑y2.length : Int)) then
 bif (decide (i64.wrap (y1 + (↑ (List.length (y2.getD y4.toNat T7.list.dflt)) : Int)) < (0 : Int))) then
 none
 else
 f_u56_3 k j y0 ((i64.wrap (y1 + (↑ (List.length (y2.getD y4.toNat T7.list.dflt)) : Int)))) y2 y3 ((i64.wrap (y4 + 1)))
 else none
 else
 if ((f_u57 k y1).isSome = true) then
 f_u56_11 k j y0 ((↑y0.length : Int)) 0 ((v_u57 k y1))
 else none
def f_u56_11 (k : Nat) : Nat → List (T7.list).T → Int → Int → List (T7).T → Option R_u56
 | 0, _, _, _, _ => none
 | j + 1, y0, y1, y2, y3 =>
 bif (decide (y2 < y1)) then
 if (0 ≤ y2) ∧ (y2 < (↑y0.length : Int)) then
 if ((y3.length + List.length (y0.getD y2.toNat T7.list.dflt)) * (16 : Nat) ≤ (140737488355328 : Nat)) then
 f_u56_11 k j y0 y1 ((i64.wrap (y2 + 1))) ((y3 ++ y0.getD y2.toNat T7.list.dflt))
 else none
 else none
 else
 some y3
end
def f_u56 (k : Nat) (slices_ : List (RTy.list T7).T) : Option R_u56 :=
 f_u56_3 k k slices_ 0 slices_ ((↑slices_.length : Int)) 0
def v_u56 (k : Nat) (slices_ : List (RTy.list T7).T) : R_u56 := (f_u56 k slices_).getD []
def K_u56 (k : Nat) : Calld := ⟨fun g xs => match g with
 | 66 => match xs with
  | [.r (.v (Value.slice none 0 0)), _] => some [true, false]
  | _ => none
 | _ => none, fun g xs bs => match g with
 | 66 => match xs, bs with
  | [.r (.v (Value.slice none 0 0)), .r (.v (.int .i64 n_))], [] => some (.one (res_u57 (v_u57 k n_), bo_u57 n_ (v_u57 k n_)))
  | _, _ => none
 | _ => none⟩
theorem ev_u56 (k : Nat) (slices_ : List (RTy.list T7).T) : ∀ j, (∀ (y0 : List (T7.list).T) (y1 : Int) (y2 : List (T7.list).T) (y3 : Int) (y4 : Int) (r : R_u56), f_u56_3 k j y0 y1 y2 y3 y4 = some r → Ev Try.prog Try.f62 0 (placeAt Try.f62 3) (st_u56_3 y0 y1 y2 y3 y4) (res_u56 r) (bo_u56 slices_ r)) ∧ (∀ (y0 : List (T7.list).T) (y1 : Int) (y2 : Int) (y3 : List (T7).T) (r : R_u56), f_u56_11 k j y0 y1 y2 y3 = some r → Ev Try.prog Try.f62 0 (placeAt Try.f62 11) (st_u56_11 y0 y1 y2 y3) (res_u56 r) (bo_u56 slices_ r))
 | 0 => by
  refine ⟨?_, ?_⟩ <;> intros <;> rename_i h <;> simp [f_u56_3, f_u56_11] at h
 | j + 1 => by
  have ih := ev_u56 k slices_ j
  refine ⟨?_, ?_⟩
  ·intro y0 y1 y2 y3 y4 r h
   rw [f_u56_3] at h
   refine Ev.tree hm (R := Rt) (K := (K_u56 k)) (l := []) (C := [(3, [.autoB [0, 3, 9, 10, 11] false []]), (11, [.autoB [6, 25, 26, 27] false []])]) (E := [.autoB [2] true []]) (n := 1000) (T := .test ((decide (y4 < y3))) (.need [0 ≤ y4, y4 < (↑y2.length : Int)] (.test ((decide (i64.wrap (y1 + (↑ (List.length (y2.getD y4.toNat T7.list.dflt)) : Int)) < (0 : Int)))) (.stuck 5000) (.cut 3 (placeAt Try.f62 3) (st_u56_3 y0 ((i64.wrap (y1 + (↑ (List.length (y2.getD y4.toNat T7.list.dflt)) : Int)))) y2 y3 ((i64.wrap (y4 + 1))))))) (.need [CC Try.prog 66 (args_u57 y1) (bin_u57 y1) (res_u57 (v_u57 k y1)) (bo_u57 y1 (v_u57 k y1))] (.cut 11 (placeAt Try.f62 11) (st_u56_11 y0 ((↑y0.length : Int)) 0 ((v_u57 k y1)))))) (by kernel_rfl) ?_
   refine ⟨fun c => ?_, fun c => ?_⟩
   ·rw [cond_t (show ((decide (y4 < y3))) = true from c)] at h
    by_cases q : (0 ≤ y4) ∧ (y4 < (↑y2.length : Int))
    ·rw [if_pos q] at h
     refine ⟨(conjC q.1 (conjC q.2 conj0)), ?_⟩
     refine ⟨fun c => ?_, fun c => ?_⟩
     ·rw [cond_t (show ((decide (i64.wrap (y1 + (↑ (List.length (y2.getD y4.toNat T7.list.dflt)) : Int)) < (0 : Int)))) = true from c)] at h
      cases h
     ·rw [cond_f (show ((decide (i64.wrap (y1 + (↑ (List.length (y2.getD y4.toNat T7.list.dflt)) : Int)) < (0 : Int)))) = false from c)] at h
      exact ih.1 y0 ((i64.wrap (y1 + (↑ (List.length (y2.getD y4.toNat T7.list.dflt)) : Int)))) y2 y3 ((i64.wrap (y4 + 1))) _ h
    ·rw [if_neg q] at h; cases h
   ·rw [cond_f (show ((decide (y4 < y3))) = false from c)] at h
    by_cases q : ((f_u57 k y1).isSome = true)
    ·rw [if_pos q] at h
     refine ⟨(conjC (cc_u57 k y1 q) conj0), ?_⟩
     exact ih.2 y0 ((↑y0.length : Int)) 0 ((v_u57 k y1)) _ h
    ·rw [if_neg q] at h; cases h
  ·intro y0 y1 y2 y3 r h
   rw [f_u56_11] at h
   refine Ev.tree hm (R := Rt) (K := (K_u56 k)) (l := []) (C := [(3, [.autoB [0, 3, 9, 10, 11] false []]), (11, [.autoB [6, 25, 26, 27] false []])]) (E := [.autoB [2] true []]) (n := 1000) (T := .test ((decide (y2 < y1))) (.need [0 ≤ y2, y2 < (↑y0.length : Int)] (.need [(y3.length + List.length (y0.getD y2.toNat T7.list.dflt)) * (16 : Nat) ≤ (140737488355328 : Nat)] (.cut 11 (placeAt Try.f62 11) (st_u56_11 y0 y1 ((i64.wrap (y2 + 1))) ((y3 ++ y0.getD y2.toNat T7.list.dflt)))))) (.leaf (res_u56 y3) (bo_u56 slices_ y3))) (by kernel_rfl) ?_
   refine ⟨fun c => ?_, fun c => ?_⟩
   ·rw [cond_t (show ((decide (y2 < y1))) = true from c)] at h
    by_cases q : (0 ≤ y2) ∧ (y2 < (↑y0.length : Int))
    ·rw [if_pos q] at h
     refine ⟨(conjC q.1 (conjC q.2 conj0)), ?_⟩
     by_cases q : ((y3.length + List.length (y0.getD y2.toNat T7.list.dflt)) * (16 : Nat) ≤ (140737488355328 : Nat))
     ·rw [if_pos q] at h
      refine ⟨(conjC q conj0), ?_⟩
      exact ih.2 y0 y1 ((i64.wrap (y2 + 1))) ((y3 ++ y0.getD y2.toNat T7.list.dflt)) _ h
     ·rw [if_neg q] at h; cases h
    ·rw [if_neg q] at h; cases h
   ·rw [cond_f (show ((decide (y2 < y1))) = false from c)] at h
    cases h; exact ⟨rfl, rfl⟩
theorem of_u56 (k : Nat) (slices_ : List (RTy.list T7).T) (r : R_u56) (h : f_u56 k slices_ = some r) : CC Try.prog 62 (args_u56 slices_) (bin_u56 slices_) (res_u56 r) (bo_u56 slices_ r) := by
 refine CC.of (fn := Try.f62) (by kernel_rfl) (by kernel_rfl) (by kernel_rfl) (by kernel_rfl) ?_
 unfold f_u56 at h
 refine Ev.tree hm (R := Rt) (K := (K_u56 k)) (l := []) (C := [(3, [.autoB [0, 3, 9, 10, 11] false []]), (11, [.autoB [6, 25, 26, 27] false []])]) (E := [.autoB [2] true []]) (n := 1000) (T := .cut 3 (placeAt Try.f62 3) (st_u56_3 slices_ 0 slices_ ((↑slices_.length : Int)) 0)) (by kernel_rfl) ?_
 exact (ev_u56 k slices_ k).1 slices_ 0 slices_ ((↑slices_.length : Int)) 0 _ h
theorem cc_u56 (k : Nat) (slices_ : List (RTy.list T7).T) (h : (f_u56 k slices_).isSome = true) : CC Try.prog 62 (args_u56 slices_) (bin_u56 slices_) (res_u56 (v_u56 k slices_)) (bo_u56 slices_ (v_u56 k slices_)) := by
 cases e : f_u56 k slices_ with
 | none => rw [e] at h; cases h
 | some r => rw [show v_u56 k slices_ = r by simp [v_u56, e]]; exact of_u56 k slices_ r e

end
end Go.AM
namespace Go.AM
open Go Go.Proofs Go.IntKind
set_option linter.unusedVariables false
noncomputable section
abbrev R_u59 : Type := List Int
def res_u59 (r : R_u59) : AV := .tup []
def bo_u59 (x_ : List (I).T) (r : R_u59) : List (Nat × Blk) := [(0, .row 3 (RTy.int .i64) r)]
def args_u59 (x_ : List (I).T) : List AV := [.own 0 0]
def bin_u59 (x_ : List (I).T) : List Blk := [.row 3 I x_]
def f_u59 (k : Nat) (x_ : List Int) : Option R_u59 := if x_.length < 4611686018427387904 then some (x_.mergeSort fun x y => decide (x ≤ y)) else none
def v_u59 (k : Nat) (x_ : List (I).T) : R_u59 := (f_u59 k x_).getD []
theorem of_u59 (k : Nat) (x_ : List Int) (r : R_u59) (h : f_u59 k x_ = some r) : CC Try.prog 63 (args_u59 x_) (bin_u59 x_) (res_u59 r) (bo_u59 x_ r) := by
 unfold f_u59 at h
 by_cases q : x_.length < 4611686018427387904
 ·rw [if_pos q] at h
  cases h
  exact cc_sort_int Try.sort_int ⟨Try.f63, _, Try.func63, rfl, by kernel_rfl⟩ 3 x_ q
 ·rw [if_neg q] at h; cases h
theorem cc_u59 (k : Nat) (x_ : List (I).T) (h : (f_u59 k x_).isSome = true) : CC Try.prog 63 (args_u59 x_) (bin_u59 x_) (res_u59 (v_u59 k x_)) (bo_u59 x_ (v_u59 k x_)) := by
 cases e : f_u59 k x_ with
 | none => rw [e] at h; cases h
 | some r => rw [show v_u59 k x_ = r by simp [v_u59, e]]; exact of_u59 k x_ r e

end
end Go.AM
namespace Go.AM
open Go Go.Proofs Go.IntKind
set_option linter.unusedVariables false
noncomputable section
abbrev R_u69 : Type := List (T7).T × Int
def res_u69 (r : R_u69) : AV := .tup [.r (.ro T7 r.1), .r (.v (.int .i64 r.2))]
def bo_u69 (t_ : List (T7).T) (o_ : List (T7).T) (r : R_u69) : List (Nat × Blk) := []
def args_u69 (t_ : List (T7).T) (o_ : List (T7).T) : List AV := [.r (.ro T7 t_), .r (.ro T7 o_), .r (.v (.func (.func 58) #[] #[]))]
def bin_u69 (t_ : List (T7).T) (o_ : List (T7).T) : List Blk := []
def st_u69_10 (y0 : List (T7).T) (y1 : List (T7).T) (y2 : Int) (y3 : Int) (y4 : List (I).T) (y5 : List (T7).T) : St := ⟨mkS 147 [(0, .r (.ro T7 y0)), (1, .r (.ro T7 y1)), (2, .r (.v (Value.func (Fn.func 58) #[] #[]))), (10, .own 1000000 0), (35, .own 1000001 0), (36, .r (.v (.int .i64 y2))), (37, .r (.v (.int .i64 y3)))], [(1000000, 0, .row 3 I y4), (1000001, 0, .row 105 T7 y5)]⟩
def st_u69_18 (y0 : List (T7).T) (y1 : List (T7).T) (y2 : Int) (y3 : Int) (y4 : Int) (y5 : Int) (y6 : List (RTy.int IntKind.i64).T) (y7 : List (T7).T) : St := ⟨mkS 147 [(0, .r (.ro T7 y0)), (1, .r (.ro T7 y1)), (2, .r (.v (Value.func (Fn.func 58) #[] #[]))), (10, .own 1000000 0), (13, .own 1000001 0), (14, .r (.v (.int .i64 y2))), (15, .r (.v (.int .i64 y3))), (51, .own 1000000 0), (52, .r (.v (.int .i64 y4))), (53, .r (.v (.int .i64 y5)))], [(1000000, 0, .row 3 ((RTy.int IntKind.i64)) y6), (1000001, 0, .row 105 T7 y7)]⟩
def st_u69_20 (y0 : List (T7).T) (y1 : List (T7).T) (y2 : Int) (y3 : Int) (y4 : Int) (y5 : Int) (y6 : Int) (y7 : Int) (y8 : List (RTy.int IntKind.i64).T) (y9 : List (T7).T) : St := ⟨mkS 147 [(0, .r (.ro T7 y0)), (1, .r (.ro T7 y1)), (2, .r (.v (Value.func (Fn.func 58) #[] #[]))), (10, .own 1000000 0), (13, .own 1000001 0), (14, .r (.v (.int .i64 y2))), (15, .r (.v (.int .i64 y3))), (16, .r (.v (.int .i64 y4))), (17, .r (.v (.int .i64 y5))), (51, .own 1000000 0), (52, .r (.v (.int .i64 y6))), (53, .r (.v (.int .i64 y7)))], [(1000000, 0, .row 3 ((RTy.int IntKind.i64)) y8), (1000001, 0, .row 105 T7 y9)]⟩
def st_u69_22 (y0 : List (T7).T) (y1 : List (T7).T) (y2 : Int) (y3 : Int) (y4 : Int) (y5 : Int) (y6 : Int) (y7 : Int) (y8 : List (RTy.int IntKind.i64).T) (y9 : List (T7).T) : St := ⟨mkS 147 [(0, .r (.ro T7 y0)), (1, .r (.ro T7 y1)), (2, .r (.v (Value.func (Fn.func 58) #[] #[]))), (10, .own 1000000 0), (13, .own 1000001 0), (14, .r (.v (.int .i64 y2))), (15, .r (.v (.int .i64 y3))), (16, .r (.v (.int .i64 y4))), (17, .r (.v (.int .i64 y5))), (51, .own 1000000 0), (52, .r (.v (.int .i64 y6))), (53, .r (.v (.int .i64 y7)))], [(1000000, 0, .row 3 ((RTy.int IntKind.i64)) y8), (1000001, 0, .row 105 T7 y9)]⟩
def st_u69_28 (y0 : List (T7).T) : St := ⟨mkS 147 [(13, .r (.ro T7 y0))], []⟩
mutual
def f_u69_10 (k : Nat) : Nat → List (T7).T → List (T7).T → Int → Int → List (I).T → List (T7).T → Option R_u69
 | 0, _, _, _, _, _, _ => none
 | j + 1, y0, y1, y2, y3, y4, y5 =>
 bif (decide (y3 < y2)) then
 if (0 ≤ y3) ∧ (y3 < (↑y5.length : Int)) then
 if ((y4.length + [(y5.getD y3.toNat T7.dflt).1, (y5.getD y3.toNat T7.dflt).2].length) * (8 : Nat) ≤ (140737488355328 : Nat)) then
 f_u69_10 k j y0 y1 y2 ((i64.wrap (y3 + 1))) ((y4 ++ [(y5.getD y3.toNat T7.dflt).1, (y5.getD y3.toNat T7.dflt).2])) y5
 else none
 else none
 else
 if ((f_u59 k y4).isSome = true) then
 f_u69_18 k j y0 y1 0 0 ((↑ (List.length (v_u59 k y4)) : Int)) 0 ((v_u59 k y4)) ([])
 else none
def f_u69_18 (k : Nat) : Nat → List (T7).T → List (T7).T → Int → Int → Int → Int → List (RTy.int IntKind.i64).T → List (T7).T → Option R_u69
 | 0, _, _, _, _, _, _, _, _ => none
 | j + 1, y0, y1, y2, y3, y4, y5, y6, y7 =>
 bif (decide (y5 < y4)) then
 if (0 ≤ y5) ∧ (y5 < (↑y6.length : Int)) then
 f_u69_20 k j y0 y1 y2 y3 y5 ((y6.getD y5.toNat (RTy.int IntKind.i64).dflt)) y4 y5 y6 y7
 else none
 else
 f_u69_28 k j y7
def f_u69_20 (k : Nat) : Nat → List (T7).T → List (T7).T → Int → Int → Int → Int → Int → Int → List (RTy.int IntKind.i64).T → List (T7).T → Option R_u69
 | 0, _, _, _, _, _, _, _, _, _, _ => none
 | j + 1, y0, y1, y2, y3, y4, y5, y6, y7, y8, y9 =>
 if (decide (y2 < (↑y0.length : Int)) = true → 0 ≤ y2) ∧ (decide (y2 < (↑y0.length : Int)) = true → y2 < (↑y0.length : Int)) then
 bif (decide (y2 < (↑y0.length : Int)) && decide ((y0.getD y2.toNat T7.dflt).2 ≤ y5)) then
 f_u69_20 k j y0 y1 ((i64.wrap (y2 + 1))) y3 y4 y5 y6 y7 y8 y9
 else
 f_u69_22 k j y0 y1 y2 y3 y4 y5 y6 y7 y8 y9
 else none
def f_u69_22 (k : Nat) : Nat → List (T7).T → List (T7).T → Int → Int → Int → Int → Int → Int → List (RTy.int IntKind.i64).T → List (T7).T → Option R_u69
 | 0, _, _, _, _, _, _, _, _, _, _ => none
 | j + 1, y0, y1, y2, y3, y4, y5, y6, y7, y8, y9 =>
 if (decide (y3 < (↑y1.length : Int)) = true → 0 ≤ y3) ∧ (decide (y3 < (↑y1.length : Int)) = true → y3 < (↑y1.length : Int)) then
 bif (decide (y3 < (↑y1.length : Int)) && decide ((y1.getD y3.toNat T7.dflt).2 ≤ y5)) then
 f_u69_22 k j y0 y1 y2 ((i64.wrap (y3 + 1))) y4 y5 y6 y7 y8 y9
 else
 if ((i64.wrap (y4 + (1 : Int)) == (↑y8.length : Int)) = false → (0 : Int) ≤ i64.wrap (y4 + (1 : Int))) ∧ ((i64.wrap (y4 + (1 : Int)) == (↑y8.length : Int)) = false → i64.wrap (y4 + (1 : Int)) < (↑y8.length : Int)) then
 bif (i64.wrap (y4 + (1 : Int)) == (↑y8.length : Int) || y8.getD (i64.wrap (y4 + (1 : Int))).toNat (RTy.int IntKind.i64).dflt == y5) then
 f_u69_18 k j y0 y1 y2 y3 y6 ((i64.wrap (y7 + 1))) y8 y9
 else
 if (decide (y2 < (↑y0.length : Int)) = true → 0 ≤ y2) ∧ (decide (y2 < (↑y0.length : Int)) = true → y2 < (↑y0.length : Int)) ∧ (decide (y3 < (↑y1.length : Int)) = true → 0 ≤ y3) ∧ (decide (y3 < (↑y1.length : Int)) = true → y3 < (↑y1.length : Int)) ∧ ((f_u65 k (decide (y2 < (↑y0.length : Int)) && decide ((y0.getD y2.toNat T7.dflt).1 ≤ y5)) (decide (y3 < (↑y1.length : Int)) && decide ((y1.getD y3.toNat T7.dflt).1 ≤ y5))).isSome = true) then
 bif (v_u65 k (decide (y2 < (↑y0.length : Int)) && decide ((y0.getD y2.toNat T7.dflt).1 ≤ y5)) (decide (y3 < (↑y1.length : Int)) && decide ((y1.getD y3.toNat T7.dflt).1 ≤ y5))) then
 if ((0 : Int) ≤ i64.wrap (y4 + (1 : Int))) ∧ (i64.wrap (y4 + (1 : Int)) < (↑y8.length : Int)) ∧ ((y9.length + [(y5, y8.getD (i64.wrap (y4 + (1 : Int))).toNat (RTy.int IntKind.i64).dflt)].length) * (16 : Nat) ≤ (140737488355328 : Nat)) then
 f_u69_18 k j y0 y1 y2 y3 y6 ((i64.wrap (y7 + 1))) y8 ((y9 ++ [(y5, y8.getD (i64.wrap (y4 + 1)).toNat (RTy.int IntKind.i64).dflt)]))
 else none
 else
 f_u69_18 k j y0 y1 y2 y3 y6 ((i64.wrap (y7 + 1))) y8 y9
 else none
 else none
 else none
def f_u69_28 (k : Nat) : Nat → List (T7).T → Option R_u69
 | 0, _ => none
 | j + 1, y0 =>
 if ((f_u67 k y0).isSome = true) then
 bif (decide ((↑ (List.length (v_u67 k y0)) : Int) > (256 : Int))) then
 some (([], 8))
 else
 some ((v_u67 k y0, 0))
 else none
end
def f_u69 (k : Nat) (t_ : List (T7).T) (o_ : List (T7).T) : Option R_u69 :=
 if ((f_u63 k t_).isSome = true) then
 bif (v_u63 k t_ != (0 : Int)) then
 some (([], v_u63 k t_))
 else
 if ((f_u63 k o_).isSome = true) then
 bif (v_u63 k o_ != (0 : Int)) then
 some (([], v_u63 k o_))
 else
 if ((f_u67 k t_).isSome = true) ∧ ((f_u67 k o_).isSome = true) then
 if ((f_u56 k [v_u67 k t_, v_u67 k o_]).isSome = true) then
 f_u69_10 k k ((v_u67 k t_)) ((v_u67 k o_)) ((↑ (List.length (v_u56 k [v_u67 k t_, v_u67 k o_])) : Int)) 0 ([]) ((v_u56 k [v_u67 k t_, v_u67 k o_]))
 else none
 else none
 else none
 else none
def v_u69 (k : Nat) (t_ : List (T7).T) (o_ : List (T7).T) : R_u69 := (f_u69 k t_ o_).getD ([], 0)
def K_u69 (k : Nat) : Calld := ⟨fun g xs => match g with
 | 55 => match xs with
  | [_] => some [false]
  | _ => none
 | 56 => match xs with
  | [_] => some [false]
  | _ => none
 | 62 => match xs with
  | [_] => some [false]
  | _ => none
 | 63 => match xs with
  | [.own _ _] => some [true]
  | _ => none
 | 58 => match xs with
  | [_, _] => some [false, false]
  | _ => none
 | _ => none, fun g xs bs => match g with
 | 55 => match xs, bs with
  | [.r (.ro tl__ ql_)], [] => (castL tl__ T7 ql_).bind fun l_ => some (.one (res_u63 (v_u63 k l_), bo_u63 l_ (v_u63 k l_)))
  | _, _ => none
 | 56 => match xs, bs with
  | [.r (.ro tl__ ql_)], [] => (castL tl__ T7 ql_).bind fun l_ => some (.one (res_u67 (v_u67 k l_), bo_u67 l_ (v_u67 k l_)))
  | _, _ => none
 | 62 => match xs, bs with
  | [.r (.ro tslices__ qslices_)], [] => (castL tslices__ (RTy.list T7) qslices_).bind fun slices_ => some (.one (res_u56 (v_u56 k slices_), bo_u56 slices_ (v_u56 k slices_)))
  | _, _ => none
 | 63 => match xs, bs with
  | [.own 0 0], [.row 3 tx__ qx_] => (castL tx__ I qx_).bind fun x_ => some (.one (res_u59 (v_u59 k x_), bo_u59 x_ (v_u59 k x_)))
  | _, _ => none
 | 58 => match xs, bs with
  | [.r (.v (.bool a_)), .r (.v (.bool b_))], [] => some (.one (res_u65 (v_u65 k a_ b_), bo_u65 a_ b_ (v_u65 k a_ b_)))
  | _, _ => none
 | _ => none⟩
theorem ev_u69 (k : Nat) (t_ : List (T7).T) (o_ : List (T7).T) : ∀ j, (∀ (y0 : List (T7).T) (y1 : List (T7).T) (y2 : Int) (y3 : Int) (y4 : List (I).T) (y5 : List (T7).T) (r : R_u69), f_u69_10 k j y0 y1 y2 y3 y4 y5 = some r → Ev Try.prog Try.f57 0 (placeAt Try.f57 10) (st_u69_10 y0 y1 y2 y3 y4 y5) (res_u69 r) (bo_u69 t_ o_ r)) ∧ (∀ (y0 : List (T7).T) (y1 : List (T7).T) (y2 : Int) (y3 : Int) (y4 : Int) (y5 : Int) (y6 : List (RTy.int IntKind.i64).T) (y7 : List (T7).T) (r : R_u69), f_u69_18 k j y0 y1 y2 y3 y4 y5 y6 y7 = some r → Ev Try.prog Try.f57 0 (placeAt Try.f57 18) (st_u69_18 y0 y1 y2 y3 y4 y5 y6 y7) (res_u69 r) (bo_u69 t_ o_ r)) ∧ (∀ (y0 : List (T7).T) (y1 : List (T7).T) (y2 : Int) (y3 : Int) (y4 : Int) (y5 : Int) (y6 : Int) (y7 : Int) (y8 : List (RTy.int IntKind.i64).T) (y9 : List (T7).T) (r : R_u69), f_u69_20 k j y0 y1 y2 y3 y4 y5 y6 y7 y8 y9 = some r → Ev Try.prog Try.f57 0 (placeAt Try.f57 20) (st_u69_20 y0 y1 y2 y3 y4 y5 y6 y7 y8 y9) (res_u69 r) (bo_u69 t_ o_ r)) ∧ (∀ (y0 : List (T7).T) (y1 : List (T7).T) (y2 : Int) (y3 : Int) (y4 : Int) (y5 : Int) (y6 : Int) (y7 : Int) (y8 : List (RTy.int IntKind.i64).T) (y9 : List (T7).T) (r : R_u69), f_u69_22 k j y0 y1 y2 y3 y4 y5 y6 y7 y8 y9 = some r → Ev Try.prog Try.f57 0 (placeAt Try.f57 22) (st_u69_22 y0 y1 y2 y3 y4 y5 y6 y7 y8 y9) (res_u69 r) (bo_u69 t_ o_ r)) ∧ (∀ (y0 : List (T7).T) (r : R_u69), f_u69_28 k j y0 = some r → Ev Try.prog Try.f57 0 (placeAt Try.f57 28) (st_u69_28 y0) (res_u69 r) (bo_u69 t_ o_ r))
 | 0 => by
  refine ⟨?_, ?_, ?_, ?_, ?_⟩ <;> intros <;> rename_i h <;> simp [f_u69_10, f_u69_18, f_u69_20, f_u69_22, f_u69_28] at h
 | j + 1 => by
  have ih := ev_u69 k t_ o_ j
  refine ⟨?_, ?_, ?_, ?_, ?_⟩
  ·intro y0 y1 y2 y3 y4 y5 r h
   rw [f_u69_10] at h
   refine Ev.tree hm (R := Rt) (K := (K_u69 k)) (l := [28]) (C := [(10, [.row 10 3 I, .autoB [0, 1, 2, 10, 35, 36, 37] false []]), (18, [.row 13 105 T7, .autoB [0, 1, 2, 10, 13, 14, 15, 51, 52, 53] false []]), (20, [.autoB [0, 1, 2, 10, 13, 14, 15, 16, 17, 51, 52, 53] false []]), (22, [.autoB [0, 1, 2, 10, 13, 14, 15, 16, 17, 51, 52, 53] false []]), (28, [.frz 13 false (RTy.list T7), .autoB [13] false []])]) (E := [.frz 6 false (RTy.list T7), .autoB [6, 7] true []]) (n := 1000) (T := .test ((decide (y3 < y2))) (.need [0 ≤ y3, y3 < (↑y5.length : Int)] (.need [(y4.length + [(y5.getD y3.toNat T7.dflt).1, (y5.getD y3.toNat T7.dflt).2].length) * (8 : Nat) ≤ (140737488355328 : Nat)] (.cut 10 (placeAt Try.f57 10) (st_u69_10 y0 y1 y2 ((i64.wrap (y3 + 1))) ((y4 ++ [(y5.getD y3.toNat T7.dflt).1, (y5.getD y3.toNat T7.dflt).2])) y5)))) (.need [CC Try.prog 63 (args_u59 y4) (bin_u59 y4) (res_u59 (v_u59 k y4)) (bo_u59 y4 (v_u59 k y4))] (.cut 18 (placeAt Try.f57 18) (st_u69_18 y0 y1 0 0 ((↑ (List.length (v_u59 k y4)) : Int)) 0 ((v_u59 k y4)) ([]))))) (by kernel_rfl) ?_
   refine ⟨fun c => ?_, fun c => ?_⟩
   ·rw [cond_t (show ((decide (y3 < y2))) = true from c)] at h
    by_cases q : (0 ≤ y3) ∧ (y3 < (↑y5.length : Int))
    ·rw [if_pos q] at h
     refine ⟨(conjC q.1 (conjC q.2 conj0)), ?_⟩
     by_cases q : ((y4.length + [(y5.getD y3.toNat T7.dflt).1, (y5.getD y3.toNat T7.dflt).2].length) * (8 : Nat) ≤ (140737488355328 : Nat))
     ·rw [if_pos q] at h
      refine ⟨(conjC q conj0), ?_⟩
      exact ih.1 y0 y1 y2 ((i64.wrap (y3 + 1))) ((y4 ++ [(y5.getD y3.toNat T7.dflt).1, (y5.getD y3.toNat T7.dflt).2])) y5 _ h
     ·rw [if_neg q] at h; cases h
    ·rw [if_neg q] at h; cases h
   ·rw [cond_f (show ((decide (y3 < y2))) = false from c)] at h
    by_cases q : ((f_u59 k y4).isSome = true)
    ·rw [if_pos q] at h
     refine ⟨(conjC (cc_u59 k y4 q) conj0), ?_⟩
     exact ih.2.1 y0 y1 0 0 ((↑ (List.length (v_u59 k y4)) : Int)) 0 ((v_u59 k y4)) ([]) _ h
    ·rw [if_neg q] at h; cases h
  ·intro y0 y1 y2 y3 y4 y5 y6 y7 r h
   rw [f_u69_18] at h
   refine Ev.tree hm (R := Rt) (K := (K_u69 k)) (l := [28]) (C := [(10, [.row 10 3 I, .autoB [0, 1, 2, 10, 35, 36, 37] false []]), (18, [.row 13 105 T7, .autoB [0, 1, 2, 10, 13, 14, 15, 51, 52, 53] false []]), (20, [.autoB [0, 1, 2, 10, 13, 14, 15, 16, 17, 51, 52, 53] false []]), (22, [.autoB [0, 1, 2, 10, 13, 14, 15, 16, 17, 51, 52, 53] false []]), (28, [.frz 13 false (RTy.list T7), .autoB [13] false []])]) (E := [.frz 6 false (RTy.list T7), .autoB [6, 7] true []]) (n := 1000) (T := .test ((decide (y5 < y4))) (.need [0 ≤ y5, y5 < (↑y6.length : Int)] (.cut 20 (placeAt Try.f57 20) (st_u69_20 y0 y1 y2 y3 y5 ((y6.getD y5.toNat (RTy.int IntKind.i64).dflt)) y4 y5 y6 y7))) (.cut 28 (placeAt Try.f57 28) (st_u69_28 y7))) (by kernel_rfl) ?_
   refine ⟨fun c => ?_, fun c => ?_⟩
   ·rw [cond_t (show ((decide (y5 < y4))) = true from c)] at h
    by_cases q : (0 ≤ y5) ∧ (y5 < (↑y6.length : Int))
    ·rw [if_pos q] at h
     refine ⟨(conjC q.1 (conjC q.2 conj0)), ?_⟩
     exact ih.2.2.1 y0 y1 y2 y3 y5 ((y6.getD y5.toNat (RTy.int IntKind.i64).dflt)) y4 y5 y6 y7 _ h
    ·rw [if_neg q] at h; cases h
   ·rw [cond_f (show ((decide (y5 < y4))) = false from c)] at h
    exact ih.2.2.2.2 y7 _ h
  ·intro y0 y1 y2 y3 y4 y5 y6 y7 y8 y9 r h
   rw [f_u69_20] at h
   refine Ev.tree hm (R := Rt) (K := (K_u69 k)) (l := [28]) (C := [(10, [.row 10 3 I, .autoB [0, 1, 2, 10, 35, 36, 37] false []]), (18, [.row 13 105 T7, .autoB [0, 1, 2, 10, 13, 14, 15, 51, 52, 53] false []]), (20, [.autoB [0, 1, 2, 10, 13, 14, 15, 16, 17, 51, 52, 53] false []]), (22, [.autoB [0, 1, 2, 10, 13, 14, 15, 16, 17, 51, 52, 53] false []]), (28, [.frz 13 false (RTy.list T7), .autoB [13] false []])]) (E := [.frz 6 false (RTy.list T7), .autoB [6, 7] true []]) (n := 1000) (T := .need [decide (y2 < (↑y0.length : Int)) = true → 0 ≤ y2, decide (y2 < (↑y0.length : Int)) = true → y2 < (↑y0.length : Int)] (.test ((decide (y2 < (↑y0.length : Int)) && decide ((y0.getD y2.toNat T7.dflt).2 ≤ y5))) (.cut 20 (placeAt Try.f57 20) (st_u69_20 y0 y1 ((i64.wrap (y2 + 1))) y3 y4 y5 y6 y7 y8 y9)) (.cut 22 (placeAt Try.f57 22) (st_u69_22 y0 y1 y2 y3 y4 y5 y6 y7 y8 y9)))) (by kernel_rfl) ?_
   by_cases q : (decide (y2 < (↑y0.length : Int)) = true → 0 ≤ y2) ∧ (decide (y2 < (↑y0.length : Int)) = true → y2 < (↑y0.length : Int))
   ·rw [if_pos q] at h
    refine ⟨(conjC q.1 (conjC q.2 conj0)), ?_⟩
    refine ⟨fun c => ?_, fun c => ?_⟩
    ·rw [cond_t (show ((decide (y2 < (↑y0.length : Int)) && decide ((y0.getD y2.toNat T7.dflt).2 ≤ y5))) = true from c)] at h
     exact ih.2.2.1 y0 y1 ((i64.wrap (y2 + 1))) y3 y4 y5 y6 y7 y8 y9 _ h
    ·rw [cond_f (show ((decide (y2 < (↑y0.length : Int)) && decide ((y0.getD y2.toNat T7.dflt).2 ≤ y5))) = false from c)] at h
     exact ih.2.2.2.1 y0 y1 y2 y3 y4 y5 y6 y7 y8 y9 _ h
   ·rw [if_neg q] at h; cases h
  ·intro y0 y1 y2 y3 y4 y5 y6 y7 y8 y9 r h
   rw [f_u69_22] at h
   refine Ev.tree hm (R := Rt) (K := (K_u69 k)) (l := [28]) (C := [(10, [.row 10 3 I, .autoB [0, 1, 2, 10, 35, 36, 37] false []]), (18, [.row 13 105 T7, .autoB [0, 1, 2, 10, 13, 14, 15, 51, 52, 53] false []]), (20, [.autoB [0, 1, 2, 10, 13, 14, 15, 16, 17, 51, 52, 53] false []]), (22, [.autoB [0, 1, 2, 10, 13, 14, 15, 16, 17, 51, 52, 53] false []]), (28, [.frz 13 false (RTy.list T7), .autoB [13] false []])]) (E := [.frz 6 false (RTy.list T7), .autoB [6, 7] true []]) (n := 1000) (T := .need [decide (y3 < (↑y1.length : Int)) = true → 0 ≤ y3, decide (y3 < (↑y1.length : Int)) = true → y3 < (↑y1.length : Int)] (.test ((decide (y3 < (↑y1.length : Int)) && decide ((y1.getD y3.toNat T7.dflt).2 ≤ y5))) (.cut 22 (placeAt Try.f57 22) (st_u69_22 y0 y1 y2 ((i64.wrap (y3 + 1))) y4 y5 y6 y7 y8 y9)) (.need [(i64.wrap (y4 + (1 : Int)) == (↑y8.length : Int)) = false → (0 : Int) ≤ i64.wrap (y4 + (1 : Int)), (i64.wrap (y4 + (1 : Int)) == (↑y8.length : Int)) = false → i64.wrap (y4 + (1 : Int)) < (↑y8.length : Int)] (.test ((i64.wrap (y4 + (1 : Int)) == (↑y8.length : Int) || y8.getD (i64.wrap (y4 + (1 : Int))).toNat (RTy.int IntKind.i64).dflt == y5)) (.cut 18 (placeAt Try.f57 18) (st_u69_18 y0 y1 y2 y3 y6 ((i64.wrap (y7 + 1))) y8 y9)) (.need [decide (y2 < (↑y0.length : Int)) = true → 0 ≤ y2, decide (y2 < (↑y0.length : Int)) = true → y2 < (↑y0.length : Int), decide (y3 < (↑y1.length : Int)) = true → 0 ≤ y3, decide (y3 < (↑y1.length : Int)) = true → y3 < (↑y1.length : Int), CC Try.prog 58 (args_u65 (decide (y2 < (↑y0.length : Int)) && decide ((y0.getD y2.toNat T7.dflt).1 ≤ y5)) (decide (y3 < (↑y1.length : Int)) && decide ((y1.getD y3.toNat T7.dflt).1 ≤ y5))) (bin_u65 (decide (y2 < (↑y0.length : Int)) && decide ((y0.getD y2.toNat T7.dflt).1 ≤ y5)) (decide (y3 < (↑y1.length : Int)) && decide ((y1.getD y3.toNat T7.dflt).1 ≤ y5))) (res_u65 (v_u65 k (decide (y2 < (↑y0.length : Int)) && decide ((y0.getD y2.toNat T7.dflt).1 ≤ y5)) (decide (y3 < (↑y1.length : Int)) && decide ((y1.getD y3.toNat T7.dflt).1 ≤ y5)))) (bo_u65 (decide (y2 < (↑y0.length : Int)) && decide ((y0.getD y2.toNat T7.dflt).1 ≤ y5)) (decide (y3 < (↑y1.length : Int)) && decide ((y1.getD y3.toNat T7.dflt).1 ≤ y5)) (v_u65 k (decide (y2 < (↑y0.length : Int)) && decide ((y0.getD y2.toNat T7.dflt).1 ≤ y5)) (decide (y3 < (↑y1.length : Int)) && decide ((y1.getD y3.toNat T7.dflt).1 ≤ y5))))] (.test ((v_u65 k (decide (y2 < (↑y0.length : Int)) && decide ((y0.getD y2.toNat T7.dflt).1 ≤ y5)) (decide (y3 < (↑y1.length : Int)) && decide ((y1.getD y3.toNat T7.dflt).1 ≤ y5)))) (.need [(0 : Int) ≤ i64.wrap (y4 + (1 : Int)), i64.wrap (y4 + (1 : Int)) < (↑y8.length : Int), (y9.length + [(y5, y8.getD (i64.wrap (y4 + (1 : Int))).toNat (RTy.int IntKind.i64).dflt)].length) * (16 : Nat) ≤ (140737488355328 : Nat)] (.cut 18 (placeAt Try.f57 18) (st_u69_18 y0 y1 y2 y3 y6 ((i64.wrap (y7 + 1))) y8 ((y9 ++ [(y5, y8.getD (i64.wrap (y4 + 1)).toNat (RTy.int IntKind.i64).dflt)]))))) (.cut 18 (placeAt Try.f57 18) (st_u69_18 y0 y1 y2 y3 y6 ((i64.wrap (y7 + 1))) y8 y9)))))))) (by kernel_rfl) ?_
   by_cases q : (decide (y3 < (↑y1.length : Int)) = true → 0 ≤ y3) ∧ (decide (y3 < (↑y1.length : Int)) = true → y3 < (↑y1.length : Int))
   ·rw [if_pos q] at h
    refine ⟨(conjC q.1 (conjC q.2 conj0)), ?_⟩
    refine ⟨fun c => ?_, fun c => ?_⟩
    ·rw [cond_t (show ((decide (y3 < (↑y1.length : Int)) && decide ((y1.getD y3.toNat T7.dflt).2 ≤ y5))) = true from c)] at h
     exact ih.2.2.2.1 y0 y1 y2 ((i64.wrap (y3 + 1))) y4 y5 y6 y7 y8 y9 _ h
    ·rw [cond_f (show ((decide (y3 < (↑y1.length : Int)) && decide ((y1.getD y3.toNat T7.dflt).2 ≤ y5))) = false from c)] at h
     by_cases q : ((i64.wrap (y4 + (1 : Int)) == (↑y8.length : Int)) = false → (0 : Int) ≤ i64.wrap (y4 + (1 : Int))) ∧ ((i64.wrap (y4 + (1 : Int)) == (↑y8.length : Int)) = false → i64.wrap (y4 + (1 : Int)) < (↑y8.length : Int))
     ·rw [if_pos q] at h
      refine ⟨(conjC q.1 (conjC q.2 conj0)), ?_⟩
      refine ⟨fun c => ?_, fun c => ?_⟩
      ·rw [cond_t (show ((i64.wrap (y4 + (1 : Int)) == (↑y8.length : Int) || y8.getD (i64.wrap (y4 + (1 : Int))).toNat (RTy.int IntKind.i64).dflt == y5)) = true from c)] at h
       exact ih.2.1 y0 y1 y2 y3 y6 ((i64.wrap (y7 + 1))) y8 y9 _ h
      ·rw [cond_f (show ((i64.wrap (y4 + (1 : Int)) == (↑y8.length : Int) || y8.getD (i64.wrap (y4 + (1 : Int))).toNat (RTy.int IntKind.i64).dflt == y5)) = false from c)] at h
       by_cases q : (decide (y2 < (↑y0.length : Int)) = true → 0 ≤ y2) ∧ (decide (y2 < (↑y0.length : Int)) = true → y2 < (↑y0.length : Int)) ∧ (decide (y3 < (↑y1.length : Int)) = true → 0 ≤ y3) ∧ (decide (y3 < (↑y1.length : Int)) = true → y3 < (↑y1.length : Int)) ∧ ((f_u65 k (decide (y2 < (↑y0.length : Int)) && decide ((y0.getD y2.toNat T7.dflt).1 ≤ y5)) (decide (y3 < (↑y1.length : Int)) && decide ((y1.getD y3.toNat T7.dflt).1 ≤ y5))).isSome = true)
       ·rw [if_pos q] at h
        refine ⟨(conjC q.1 (conjC q.2.1 (conjC q.2.2.1 (conjC q.2.2.2.1 (conjC (cc_u65 k (decide (y2 < (↑y0.length : Int)) && decide ((y0.getD y2.toNat T7.dflt).1 ≤ y5)) (decide (y3 < (↑y1.length : Int)) && decide ((y1.getD y3.toNat T7.dflt).1 ≤ y5)) q.2.2.2.2) conj0))))), ?_⟩
        refine ⟨fun c => ?_, fun c => ?_⟩
        ·rw [cond_t (show ((v_u65 k (decide (y2 < (↑y0.length : Int)) && decide ((y0.getD y2.toNat T7.dflt).1 ≤ y5)) (decide (y3 < (↑y1.length : Int)) && decide ((y1.getD y3.toNat T7.dflt).1 ≤ y5)))) = true from c)] at h
         by_cases q : ((0 : Int) ≤ i64.wrap (y4 + (1 : Int))) ∧ (i64.wrap (y4 + (1 : Int)) < (↑y8.length : Int)) ∧ ((y9.length + [(y5, y8.getD (i64.wrap (y4 + (1 : Int))).toNat (RTy.int IntKind.i64).dflt)].length) * (16 : Nat) ≤ (140737488355328 : Nat))
         ·rw [if_pos q] at h
          refine ⟨(conjC q.1 (conjC q.2.1 (conjC q.2.2 conj0))), ?_⟩
          exact ih.2.1 y0 y1 y2 y3 y6 ((i64.wrap (y7 + 1))) y8 ((y9 ++ [(y5, y8.getD (i64.wrap (y4 + 1)).toNat (RTy.int IntKind.i64).dflt)])) _ h
         ·rw [if_neg q] at h; cases h
        ·rw [cond_f (show ((v_u65 k (decide (y2 < (↑y0.length : Int)) && decide ((y0.getD y2.toNat T7.dflt).1 ≤ y5)) (decide (y3 < (↑y1.length : Int)) && decide ((y1.getD y3.toNat T7.dflt).1 ≤ y5)))) = false from c)] at h
         exact ih.2.1 y0 y1 y2 y3 y6 ((i64.wrap (y7 + 1))) y8 y9 _ h
       ·rw [if_neg q] at h; cases h
     ·rw [if_neg q] at h; cases h
   ·rw [if_neg q] at h; cases h
  ·intro y0 r h
   rw [f_u69_28] at h
   refine Ev.tree hm (R := Rt) (K := (K_u69 k)) (l := [28]) (C := [(10, [.row 10 3 I, .autoB [0, 1, 2, 10, 35, 36, 37] false []]), (18, [.row 13 105 T7, .autoB [0, 1, 2, 10, 13, 14, 15, 51, 52, 53] false []]), (20, [.autoB [0, 1, 2, 10, 13, 14, 15, 16, 17, 51, 52, 53] false []]), (22, [.autoB [0, 1, 2, 10, 13, 14, 15, 16, 17, 51, 52, 53] false []]), (28, [.frz 13 false (RTy.list T7), .autoB [13] false []])]) (E := [.frz 6 false (RTy.list T7), .autoB [6, 7] true []]) (n := 1000) (T := .need [CC Try.prog 56 (args_u67 y0) (bin_u67 y0) (res_u67 (v_u67 k y0)) (bo_u67 y0 (v_u67 k y0))] (.test ((decide ((↑ (List.length (v_u67 k y0)) : Int) > (256 : Int)))) (.leaf (res_u69 (([], 8))) (bo_u69 t_ o_ (([], 8)))) (.leaf (res_u69 ((v_u67 k y0, 0))) (bo_u69 t_ o_ ((v_u67 k y0, 0)))))) (by kernel_rfl) ?_
   by_cases q : ((f_u67 k y0).isSome = true)
   ·rw [if_pos q] at h
    refine ⟨(conjC (cc_u67 k y0 q) conj0), ?_⟩
    refine ⟨fun c => ?_, fun c => ?_⟩
    ·rw [cond_t (show ((decide ((↑ (List.length (v_u67 k y0)) : Int) > (256 : Int)))) = true from c)] at h
     cases h; exact ⟨rfl, rfl⟩
    ·rw [cond_f (show ((decide ((↑ (List.length (v_u67 k y0)) : Int) > (256 : Int)))) = false from c)] at h
     cases h; exact ⟨rfl, rfl⟩
   ·rw [if_neg q] at h; cases h
theorem of_u69 (k : Nat) (t_ : List (T7).T) (o_ : List (T7).T) (r : R_u69) (h : f_u69 k t_ o_ = some r) : CC Try.prog 57 (args_u69 t_ o_) (bin_u69 t_ o_) (res_u69 r) (bo_u69 t_ o_ r) := by
 refine CC.of (fn := Try.f57) (by kernel_rfl) (by kernel_rfl) (by kernel_rfl) (by kernel_rfl) ?_
 unfold f_u69 at h
 refine Ev.tree hm (R := Rt) (K := (K_u69 k)) (l := [28]) (C := [(10, [.row 10 3 I, .autoB [0, 1, 2, 10, 35, 36, 37] false []]), (18, [.row 13 105 T7, .autoB [0, 1, 2, 10, 13, 14, 15, 51, 52, 53] false []]), (20, [.autoB [0, 1, 2, 10, 13, 14, 15, 16, 17, 51, 52, 53] false []]), (22, [.autoB [0, 1, 2, 10, 13, 14, 15, 16, 17, 51, 52, 53] false []]), (28, [.frz 13 false (RTy.list T7), .autoB [13] false []])]) (E := [.frz 6 false (RTy.list T7), .autoB [6, 7] true []]) (n := 1000) (T := .need [CC Try.prog 55 (args_u63 t_) (bin_u63 t_) (res_u63 (v_u63 k t_)) (bo_u63 t_ (v_u63 k t_))] (.test ((v_u63 k t_ != (0 : Int))) (.leaf (res_u69 (([], v_u63 k t_))) (bo_u69 t_ o_ (([], v_u63 k t_)))) (.need [CC Try.prog 55 (args_u63 o_) (bin_u63 o_) (res_u63 (v_u63 k o_)) (bo_u63 o_ (v_u63 k o_))] (.test ((v_u63 k o_ != (0 : Int))) (.leaf (res_u69 (([], v_u63 k o_))) (bo_u69 t_ o_ (([], v_u63 k o_)))) (.need [CC Try.prog 56 (args_u67 t_) (bin_u67 t_) (res_u67 (v_u67 k t_)) (bo_u67 t_ (v_u67 k t_)), CC Try.prog 56 (args_u67 o_) (bin_u67 o_) (res_u67 (v_u67 k o_)) (bo_u67 o_ (v_u67 k o_))] (.need [CC Try.prog 62 (args_u56 [v_u67 k t_, v_u67 k o_]) (bin_u56 [v_u67 k t_, v_u67 k o_]) (res_u56 (v_u56 k [v_u67 k t_, v_u67 k o_])) (bo_u56 [v_u67 k t_, v_u67 k o_] (v_u56 k [v_u67 k t_, v_u67 k o_]))] (.cut 10 (placeAt Try.f57 10) (st_u69_10 ((v_u67 k t_)) ((v_u67 k o_)) ((↑ (List.length (v_u56 k [v_u67 k t_, v_u67 k o_])) : Int)) 0 ([]) ((v_u56 k [v_u67 k t_, v_u67 k o_])))))))))) (by kernel_rfl) ?_
 by_cases q : ((f_u63 k t_).isSome = true)
 ·rw [if_pos q] at h
  refine ⟨(conjC (cc_u63 k t_ q) conj0), ?_⟩
  refine ⟨fun c => ?_, fun c => ?_⟩
  ·rw [cond_t (show ((v_u63 k t_ != (0 : Int))) = true from c)] at h
   cases h; exact ⟨rfl, rfl⟩
  ·rw [cond_f (show ((v_u63 k t_ != (0 : Int))) = false from c)] at h
   by_cases q : ((f_u63 k o_).isSome = true)
   ·rw [if_pos q] at h
    refine ⟨(conjC (cc_u63 k o_ q) conj0), ?_⟩
    refine ⟨fun c => ?_, fun c => ?_⟩
    ·rw [cond_t (show ((v_u63 k o_ != (0 : Int))) = true from c)] at h
     cases h; exact ⟨rfl, rfl⟩
    ·rw [cond_f (show ((v_u63 k o_ != (0 : Int))) = false from c)] at h
     by_cases q : ((f_u67 k t_).isSome = true) ∧ ((f_u67 k o_).isSome = true)
     ·rw [if_pos q] at h
      refine ⟨(conjC (cc_u67 k t_ q.1) (conjC (cc_u67 k o_ q.2) conj0)), ?_⟩
      by_cases q : ((f_u56 k [v_u67 k t_, v_u67 k o_]).isSome = true)
      ·rw [if_pos q] at h
       refine ⟨(conjC (cc_u56 k [v_u67 k t_, v_u67 k o_] q) conj0), ?_⟩
       exact (ev_u69 k t_ o_ k).1 ((v_u67 k t_)) ((v_u67 k o_)) ((↑ (List.length (v_u56 k [v_u67 k t_, v_u67 k o_])) : Int)) 0 ([]) ((v_u56 k [v_u67 k t_, v_u67 k o_])) _ h
      ·rw [if_neg q] at h; cases h
     ·rw [if_neg q] at h; cases h
   ·rw [if_neg q] at h; cases h
 ·rw [if_neg q] at h; cases h
theorem cc_u69 (k : Nat) (t_ : List (T7).T) (o_ : List (T7).T) (h : (f_u69 k t_ o_).isSome = true) : CC Try.prog 57 (args_u69 t_ o_) (bin_u69 t_ o_) (res_u69 (v_u69 k t_ o_)) (bo_u69 t_ o_ (v_u69 k t_ o_)) := by
 cases e : f_u69 k t_ o_ with
 | none => rw [e] at h; cases h
 | some r => rw [show v_u69 k t_ o_ = r by simp [v_u69, e]]; exact of_u69 k t_ o_ r e

end
end Go.AM
namespace Go.AM
open Go Go.Proofs Go.IntKind
set_option linter.unusedVariables false
noncomputable section
abbrev R_u64 : Type := List (T7).T × Int
def res_u64 (r : R_u64) : AV := .tup [.r (.ro T7 r.1), .r (.v (.int .i64 r.2))]
def bo_u64 (l_ : List (T7).T) (r : R_u64) : List (Nat × Blk) := []
def args_u64 (l_ : List (T7).T) : List AV := [.r (.ro T7 l_)]
def bin_u64 (l_ : List (T7).T) : List Blk := []
def f_u64 (k : Nat) (l_ : List (T7).T) : Option R_u64 :=
 if ((f_u69 k l_ []).isSome = true) then
 some (((v_u69 k l_ []).1, (v_u69 k l_ []).2))
 else none
def v_u64 (k : Nat) (l_ : List (T7).T) : R_u64 := (f_u64 k l_).getD ([], 0)
def K_u64 (k : Nat) : Calld := ⟨fun g xs => match g with
 | 58 => match xs with
  | [_, _] => some [false, false]
  | _ => none
 | 57 => match xs with
  | [_, _, .r (.v (.func (.func 58) _ _))] => some [false, false, false]
  | _ => none
 | _ => none, fun g xs bs => match g with
 | 58 => match xs, bs with
  | [.r (.v (.bool a_)), .r (.v (.bool b_))], [] => some (.one (res_u65 (v_u65 k a_ b_), bo_u65 a_ b_ (v_u65 k a_ b_)))
  | _, _ => none
 | 57 => match xs, bs with
  | [.r (.ro tt__ qt_), .r (.ro to__ qo_), .r (.v (.func (.func 58) _ _))], [] => (castL tt__ T7 qt_).bind fun t_ => (castL to__ T7 qo_).bind fun o_ => some (.one (res_u69 (v_u69 k t_ o_), bo_u69 t_ o_ (v_u69 k t_ o_)))
  | _, _ => none
 | _ => none⟩
theorem of_u64 (k : Nat) (l_ : List (T7).T) (r : R_u64) (h : f_u64 k l_ = some r) : CC Try.prog 54 (args_u64 l_) (bin_u64 l_) (res_u64 r) (bo_u64 l_ r) := by
 refine CC.of (fn := Try.f54) (by kernel_rfl) (by kernel_rfl) (by kernel_rfl) (by kernel_rfl) ?_
 unfold f_u64 at h
 refine Ev.tree hm (R := Rt) (K := (K_u64 k)) (l := []) (C := []) (E := [.frz 2 false (RTy.list T7), .autoB [2, 3] true []]) (n := 1000) (T := .need [CC Try.prog 57 (args_u69 l_ []) (bin_u69 l_ []) (res_u69 (v_u69 k l_ [])) (bo_u69 l_ [] (v_u69 k l_ []))] (.leaf (res_u64 (((v_u69 k l_ []).1, (v_u69 k l_ []).2))) (bo_u64 l_ (((v_u69 k l_ []).1, (v_u69 k l_ []).2))))) (by kernel_rfl) ?_
 by_cases q : ((f_u69 k l_ []).isSome = true)
 ·rw [if_pos q] at h
  refine ⟨(conjC (cc_u69 k l_ [] q) conj0), ?_⟩
  cases h; exact ⟨rfl, rfl⟩
 ·rw [if_neg q] at h; cases h
theorem cc_u64 (k : Nat) (l_ : List (T7).T) (h : (f_u64 k l_).isSome = true) : CC Try.prog 54 (args_u64 l_) (bin_u64 l_) (res_u64 (v_u64 k l_)) (bo_u64 l_ (v_u64 k l_)) := by
 cases e : f_u64 k l_ with
 | none => rw [e] at h; cases h
 | some r => rw [show v_u64 k l_ = r by simp [v_u64, e]]; exact of_u64 k l_ r e

end
end Go.AM
namespace Go.AM
open Go Go.Proofs Go.IntKind
set_option linter.unusedVariables false
noncomputable section
abbrev R_u34 : Type := List (T7).T × Int
def res_u34 (r : R_u34) : AV := .tup [.r (.ro T7 r.1), .r (.v (.int .i64 r.2))]
def bo_u34 (m_ : List (T0).T) (r : R_u34) : List (Nat × Blk) := []
def args_u34 (m_ : List (T0).T) : List AV := [.r (.ro T0 m_)]
def bin_u34 (m_ : List (T0).T) : List Blk := []
def st_u34_6 (y0 : List (T0).T) (y1 : Int) (y2 : Int) (y3 : List (T7).T) : St := ⟨mkS 29 [(5, .own 1000000 0), (13, .r (.ro T0 y0)), (14, .r (.v (.int .i64 y1))), (15, .r (.v (.int .i64 y2)))], [(1000000, 0, .row 105 T7 y3)]⟩
def st_u34_10 (y0 : List (T7).T) : St := ⟨mkS 29 [(5, .r (.ro T7 y0))], []⟩
mutual
def f_u34_6 (k : Nat) : Nat → List (T0).T → Int → Int → List (T7).T → Option R_u34
 | 0, _, _, _, _ => none
 | j + 1, y0, y1, y2, y3 =>
 bif (decide (y2 < y1)) then
 if (0 ≤ y2) ∧ (y2 < (↑y0.length : Int)) then
 if ((f_u43 k (y0.getD y2.toNat T0.dflt)).isSome = true) ∧ ((y3.length + [v_u43 k (y0.getD y2.toNat T0.dflt)].length) * (16 : Nat) ≤ (140737488355328 : Nat)) then
 f_u34_6 k j y0 y1 ((i64.wrap (y2 + 1))) ((y3 ++ [v_u43 k (y0.getD y2.toNat T0.dflt)]))
 else none
 else none
 else
 f_u34_10 k j y3
def f_u34_10 (k : Nat) : Nat → List (T7).T → Option R_u34
 | 0, _ => none
 | j + 1, y0 =>
 if ((f_u64 k y0).isSome = true) then
 some (((v_u64 k y0).1, (v_u64 k y0).2))
 else none
end
def f_u34 (k : Nat) (m_ : List (T0).T) : Option R_u34 :=
 if ((f_u31 k m_).isSome = true) then
 bif (v_u31 k m_ != (0 : Int)) then
 some (([], v_u31 k m_))
 else
 f_u34_6 k k m_ ((↑m_.length : Int)) 0 ([])
 else none
def v_u34 (k : Nat) (m_ : List (T0).T) : R_u34 := (f_u34 k m_).getD ([], 0)
def K_u34 (k : Nat) : Calld := ⟨fun g xs => match g with
 | 24 => match xs with
  | [_] => some [false]
  | _ => none
 | 53 => match xs with
  | [_] => some [false]
  | _ => none
 | 54 => match xs with
  | [_] => some [false]
  | _ => none
 | _ => none, fun g xs bs => match g with
 | 24 => match xs, bs with
  | [.r (.ro tm__ qm_)], [] => (castL tm__ T0 qm_).bind fun m_ => some (.one (res_u31 (v_u31 k m_), bo_u31 m_ (v_u31 k m_)))
  | _, _ => none
 | 53 => match xs, bs with
  | [.agg qr_], [] => (decS [] T0 qr_).bind fun r_ => some (.one (res_u43 (v_u43 k r_), bo_u43 r_ (v_u43 k r_)))
  | _, _ => none
 | 54 => match xs, bs with
  | [.r (.ro tl__ ql_)], [] => (castL tl__ T7 ql_).bind fun l_ => some (.one (res_u64 (v_u64 k l_), bo_u64 l_ (v_u64 k l_)))
  | _, _ => none
 | _ => none⟩
theorem ev_u34 (k : Nat) (m_ : List (T0).T) : ∀ j, (∀ (y0 : List (T0).T) (y1 : Int) (y2 : Int) (y3 : List (T7).T) (r : R_u34), f_u34_6 k j y0 y1 y2 y3 = some r → Ev Try.prog Try.f49 0 (placeAt Try.f49 6) (st_u34_6 y0 y1 y2 y3) (res_u34 r) (bo_u34 m_ r)) ∧ (∀ (y0 : List (T7).T) (r : R_u34), f_u34_10 k j y0 = some r → Ev Try.prog Try.f49 0 (placeAt Try.f49 10) (st_u34_10 y0) (res_u34 r) (bo_u34 m_ r))
 | 0 => by
  refine ⟨?_, ?_⟩ <;> intros <;> rename_i h <;> simp [f_u34_6, f_u34_10] at h
 | j + 1 => by
  have ih := ev_u34 k m_ j
  refine ⟨?_, ?_⟩
  ·intro y0 y1 y2 y3 r h
   rw [f_u34_6] at h
   refine Ev.tree hm (R := Rt) (K := (K_u34 k)) (l := [10]) (C := [(6, [.row 5 105 T7, .autoB [5, 13, 14, 15] false []]), (10, [.frz 5 false (RTy.list T7), .autoB [5] false []])]) (E := [.frz 2 false (RTy.list T7), .autoB [2, 3] true []]) (n := 1000) (T := .test ((decide (y2 < y1))) (.need [0 ≤ y2, y2 < (↑y0.length : Int)] (.need [CC Try.prog 53 (args_u43 (y0.getD y2.toNat T0.dflt)) (bin_u43 (y0.getD y2.toNat T0.dflt)) (res_u43 (v_u43 k (y0.getD y2.toNat T0.dflt))) (bo_u43 (y0.getD y2.toNat T0.dflt) (v_u43 k (y0.getD y2.toNat T0.dflt))), (y3.length + [v_u43 k (y0.getD y2.toNat T0.dflt)].length) * (16 : Nat) ≤ (140737488355328 : Nat)] (.cut 6 (placeAt Try.f49 6) (st_u34_6 y0 y1 ((i64.wrap (y2 + 1))) ((y3 ++ [v_u43 k (y0.getD y2.toNat T0.dflt)])))))) (.cut 10 (placeAt Try.f49 10) (st_u34_10 y3))) (by kernel_rfl) ?_
   refine ⟨fun c => ?_, fun c => ?_⟩
   ·rw [cond_t (show ((decide (y2 < y1))) = true from c)] at h
    by_cases q : (0 ≤ y2) ∧ (y2 < (↑y0.length : Int))
    ·rw [if_pos q] at h
     refine ⟨(conjC q.1 (conjC q.2 conj0)), ?_⟩
     by_cases q : ((f_u43 k (y0.getD y2.toNat T0.dflt)).isSome = true) ∧ ((y3.length + [v_u43 k (y0.getD y2.toNat T0.dflt)].length) * (16 : Nat) ≤ (140737488355328 : Nat))
     ·rw [if_pos q] at h
      refine ⟨(conjC (cc_u43 k (y0.getD y2.toNat T0.dflt) q.1) (conjC q.2 conj0)), ?_⟩
      exact ih.1 y0 y1 ((i64.wrap (y2 + 1))) ((y3 ++ [v_u43 k (y0.getD y2.toNat T0.dflt)])) _ h
     ·rw [if_neg q] at h; cases h
    ·rw [if_neg q] at h; cases h
   ·rw [cond_f (show ((decide (y2 < y1))) = false from c)] at h
    exact ih.2 y3 _ h
  ·intro y0 r h
   rw [f_u34_10] at h
   refine Ev.tree hm (R := Rt) (K := (K_u34 k)) (l := [10]) (C := [(6, [.row 5 105 T7, .autoB [5, 13, 14, 15] false []]), (10, [.frz 5 false (RTy.list T7), .autoB [5] false []])]) (E := [.frz 2 false (RTy.list T7), .autoB [2, 3] true []]) (n := 1000) (T := .need [CC Try.prog 54 (args_u64 y0) (bin_u64 y0) (res_u64 (v_u64 k y0)) (bo_u64 y0 (v_u64 k y0))] (.leaf (res_u34 (((v_u64 k y0).1, (v_u64 k y0).2))) (bo_u34 m_ (((v_u64 k y0).1, (v_u64 k y0).2))))) (by kernel_rfl) ?_
   by_cases q : ((f_u64 k y0).isSome = true)
   ·rw [if_pos q] at h
    refine ⟨(conjC (cc_u64 k y0 q) conj0), ?_⟩
    cases h; exact ⟨rfl, rfl⟩
   ·rw [if_neg q] at h; cases h
theorem of_u34 (k : Nat) (m_ : List (T0).T) (r : R_u34) (h : f_u34 k m_ = some r) : CC Try.prog 49 (args_u34 m_) (bin_u34 m_) (res_u34 r) (bo_u34 m_ r) := by
 refine CC.of (fn := Try.f49) (by kernel_rfl) (by kernel_rfl) (by kernel_rfl) (by kernel_rfl) ?_
 unfold f_u34 at h
 refine Ev.tree hm (R := Rt) (K := (K_u34 k)) (l := [10]) (C := [(6, [.row 5 105 T7, .autoB [5, 13, 14, 15] false []]), (10, [.frz 5 false (RTy.list T7), .autoB [5] false []])]) (E := [.frz 2 false (RTy.list T7), .autoB [2, 3] true []]) (n := 1000) (T := .need [CC Try.prog 24 (args_u31 m_) (bin_u31 m_) (res_u31 (v_u31 k m_)) (bo_u31 m_ (v_u31 k m_))] (.test ((v_u31 k m_ != (0 : Int))) (.leaf (res_u34 (([], v_u31 k m_))) (bo_u34 m_ (([], v_u31 k m_)))) (.cut 6 (placeAt Try.f49 6) (st_u34_6 m_ ((↑m_.length : Int)) 0 ([]))))) (by kernel_rfl) ?_
 by_cases q : ((f_u31 k m_).isSome = true)
 ·rw [if_pos q] at h
  refine ⟨(conjC (cc_u31 k m_ q) conj0), ?_⟩
  refine ⟨fun c => ?_, fun c => ?_⟩
  ·rw [cond_t (show ((v_u31 k m_ != (0 : Int))) = true from c)] at h
   cases h; exact ⟨rfl, rfl⟩
  ·rw [cond_f (show ((v_u31 k m_ != (0 : Int))) = false from c)] at h
   exact (ev_u34 k m_ k).1 m_ ((↑m_.length : Int)) 0 ([]) _ h
 ·rw [if_neg q] at h; cases h
theorem cc_u34 (k : Nat) (m_ : List (T0).T) (h : (f_u34 k m_).isSome = true) : CC Try.prog 49 (args_u34 m_) (bin_u34 m_) (res_u34 (v_u34 k m_)) (bo_u34 m_ (v_u34 k m_)) := by
 cases e : f_u34 k m_ with
 | none => rw [e] at h; cases h
 | some r => rw [show v_u34 k m_ = r by simp [v_u34, e]]; exact of_u34 k m_ r e

end
end Go.AM
namespace Go.AM
open Go Go.Proofs Go.IntKind
set_option linter.unusedVariables false
noncomputable section
abbrev R_u66 : Type := Int × Int
def res_u66 (r : R_u66) : AV := .tup [.r (.v (.int .i64 r.1)), .r (.v (.int .i64 r.2))]
def bo_u66 (l_ : List (T7).T) (r : R_u66) : List (Nat × Blk) := []
def args_u66 (l_ : List (T7).T) : List AV := [.r (.ro T7 l_)]
def bin_u66 (l_ : List (T7).T) : List Blk := []
def st_u66_6 (y0 : Int) (y1 : List (T7).T) (y2 : Int) (y3 : Int) : St := ⟨mkS 29 [(5, .r (.v (.int .i64 y0))), (14, .r (.ro T7 y1)), (15, .r (.v (.int .i64 y2))), (16, .r (.v (.int .i64 y3)))], []⟩
def f_u66_6 (k : Nat) : Nat → Int → List (T7).T → Int → Int → Option R_u66
 | 0, _, _, _, _ => none
 | j + 1, y0, y1, y2, y3 =>
 bif (decide (y3 < y2)) then
 if (0 ≤ y3) ∧ (y3 < (↑y1.length : Int)) then
 f_u66_6 k j ((i64.wrap (y0 + i64.wrap ((y1.getD y3.toNat T7.dflt).2 - (y1.getD y3.toNat T7.dflt).1)))) y1 y2 ((i64.wrap (y3 + 1)))
 else none
 else
 some ((y0, 0))
def f_u66 (k : Nat) (l_ : List (T7).T) : Option R_u66 :=
 if ((f_u63 k l_).isSome = true) then
 bif (v_u63 k l_ != (0 : Int)) then
 some ((0, v_u63 k l_))
 else
 if ((f_u67 k l_).isSome = true) then
 f_u66_6 k k 0 ((v_u67 k l_)) ((↑ (List.length (v_u67 k l_)) : Int)) 0
 else none
 else none
def v_u66 (k : Nat) (l_ : List (T7).T) : R_u66 := (f_u66 k l_).getD (0, 0)
def K_u66 (k : Nat) : Calld := ⟨fun g xs => match g with
 | 55 => match xs with
  | [_] => some [false]
  | _ => none
 | 56 => match xs with
  | [_] => some [false]
  | _ => none
 | _ => none, fun g xs bs => match g with
 | 55 => match xs, bs with
  | [.r (.ro tl__ ql_)], [] => (castL tl__ T7 ql_).bind fun l_ => some (.one (res_u63 (v_u63 k l_), bo_u63 l_ (v_u63 k l_)))
  | _, _ => none
 | 56 => match xs, bs with
  | [.r (.ro tl__ ql_)], [] => (castL tl__ T7 ql_).bind fun l_ => some (.one (res_u67 (v_u67 k l_), bo_u67 l_ (v_u67 k l_)))
  | _, _ => none
 | _ => none⟩
theorem ev_u66 (k : Nat) (l_ : List (T7).T) : ∀ j, (∀ (y0 : Int) (y1 : List (T7).T) (y2 : Int) (y3 : Int) (r : R_u66), f_u66_6 k j y0 y1 y2 y3 = some r → Ev Try.prog Try.f50 0 (placeAt Try.f50 6) (st_u66_6 y0 y1 y2 y3) (res_u66 r) (bo_u66 l_ r))
 | 0 => by
  intros; rename_i h; simp [f_u66_6] at h
 | j + 1 => by
  have ih := ev_u66 k l_ j
  ·intro y0 y1 y2 y3 r h
   rw [f_u66_6] at h
   refine Ev.tree hm (R := Rt) (K := (K_u66 k)) (l := []) (C := [(6, [.autoB [5, 14, 15, 16] false []])]) (E := [.autoB [2, 3] true []]) (n := 1000) (T := .test ((decide (y3 < y2))) (.need [0 ≤ y3, y3 < (↑y1.length : Int)] (.cut 6 (placeAt Try.f50 6) (st_u66_6 ((i64.wrap (y0 + i64.wrap ((y1.getD y3.toNat T7.dflt).2 - (y1.getD y3.toNat T7.dflt).1)))) y1 y2 ((i64.wrap (y3 + 1)))))) (.leaf (res_u66 ((y0, 0))) (bo_u66 l_ ((y0, 0))))) (by kernel_rfl) ?_
   refine ⟨fun c => ?_, fun c => ?_⟩
   ·rw [cond_t (show ((decide (y3 < y2))) = true from c)] at h
    by_cases q : (0 ≤ y3) ∧ (y3 < (↑y1.length : Int))
    ·rw [if_pos q] at h
     refine ⟨(conjC q.1 (conjC q.2 conj0)), ?_⟩
     exact ih ((i64.wrap (y0 + i64.wrap ((y1.getD y3.toNat T7.dflt).2 - (y1.getD y3.toNat T7.dflt).1)))) y1 y2 ((i64.wrap (y3 + 1))) _ h
    ·rw [if_neg q] at h; cases h
   ·rw [cond_f (show ((decide (y3 < y2))) = false from c)] at h
    cases h; exact ⟨rfl, rfl⟩
theorem of_u66 (k : Nat) (l_ : List (T7).T) (r : R_u66) (h : f_u66 k l_ = some r) : CC Try.prog 50 (args_u66 l_) (bin_u66 l_) (res_u66 r) (bo_u66 l_ r) := by
 refine CC.of (fn := Try.f50) (by kernel_rfl) (by kernel_rfl) (by kernel_rfl) (by kernel_rfl) ?_
 unfold f_u66 at h
 refine Ev.tree hm (R := Rt) (K := (K_u66 k)) (l := []) (C := [(6, [.autoB [5, 14, 15, 16] false []])]) (E := [.autoB [2, 3] true []]) (n := 1000) (T := .need [CC Try.prog 55 (args_u63 l_) (bin_u63 l_) (res_u63 (v_u63 k l_)) (bo_u63 l_ (v_u63 k l_))] (.test ((v_u63 k l_ != (0 : Int))) (.leaf (res_u66 ((0, v_u63 k l_))) (bo_u66 l_ ((0, v_u63 k l_)))) (.need [CC Try.prog 56 (args_u67 l_) (bin_u67 l_) (res_u67 (v_u67 k l_)) (bo_u67 l_ (v_u67 k l_))] (.cut 6 (placeAt Try.f50 6) (st_u66_6 0 ((v_u67 k l_)) ((↑ (List.length (v_u67 k l_)) : Int)) 0))))) (by kernel_rfl) ?_
 by_cases q : ((f_u63 k l_).isSome = true)
 ·rw [if_pos q] at h
  refine ⟨(conjC (cc_u63 k l_ q) conj0), ?_⟩
  refine ⟨fun c => ?_, fun c => ?_⟩
  ·rw [cond_t (show ((v_u63 k l_ != (0 : Int))) = true from c)] at h
   cases h; exact ⟨rfl, rfl⟩
  ·rw [cond_f (show ((v_u63 k l_ != (0 : Int))) = false from c)] at h
   by_cases q : ((f_u67 k l_).isSome = true)
   ·rw [if_pos q] at h
    refine ⟨(conjC (cc_u67 k l_ q) conj0), ?_⟩
    exact (ev_u66 k l_ k) 0 ((v_u67 k l_)) ((↑ (List.length (v_u67 k l_)) : Int)) 0 _ h
   ·rw [if_neg q] at h; cases h
 ·rw [if_neg q] at h; cases h
theorem cc_u66 (k : Nat) (l_ : List (T7).T) (h : (f_u66 k l_).isSome = true) : CC Try.prog 50 (args_u66 l_) (bin_u66 l_) (res_u66 (v_u66 k l_)) (bo_u66 l_ (v_u66 k l_)) := by
 cases e : f_u66 k l_ with
 | none => rw [e] at h; cases h
 | some r => rw [show v_u66 k l_ = r by simp [v_u66, e]]; exact of_u66 k l_ r e

end
end Go.AM
namespace Go.AM
open Go Go.Proofs Go.IntKind
set_option linter.unusedVariables false
noncomputable section
abbrev R_u36 : Type := Bool
def res_u36 (r : R_u36) : AV := .r (.v (.bool r))
def bo_u36 (m_ : List (T0).T) (r : R_u36) : List (Nat × Blk) := []
def args_u36 (m_ : List (T0).T) : List AV := [.r (.ro T0 m_)]
def bin_u36 (m_ : List (T0).T) : List Blk := []
def f_u36 (k : Nat) (m_ : List (T0).T) : Option R_u36 :=
 if ((f_u34 k m_).isSome = true) then
 bif ((v_u34 k m_).2 != (0 : Int)) then
 some false
 else
 if ((f_u66 k (v_u34 k m_).1).isSome = true) then
 bif ((v_u66 k (v_u34 k m_).1).2 == (0 : Int)) then
 if (((v_u66 k (v_u34 k m_).1).2 == (0 : Int)) = true) ∧ ((f_u44 k m_).isSome = true) then
 some (true && (v_u66 k (v_u34 k m_).1).1 == v_u44 k m_)
 else none
 else
 if (((v_u66 k (v_u34 k m_).1).2 == (0 : Int)) = false) then
 some false
 else none
 else none
 else none
def v_u36 (k : Nat) (m_ : List (T0).T) : R_u36 := (f_u36 k m_).getD false
def K_u36 (k : Nat) : Calld := ⟨fun g xs => match g with
 | 25 => match xs with
  | [_] => some [false]
  | _ => none
 | 49 => match xs with
  | [_] => some [false]
  | _ => none
 | 50 => match xs with
  | [_] => some [false]
  | _ => none
 | _ => none, fun g xs bs => match g with
 | 25 => match xs, bs with
  | [.r (.ro tm__ qm_)], [] => (castL tm__ T0 qm_).bind fun m_ => some (.one (res_u44 (v_u44 k m_), bo_u44 m_ (v_u44 k m_)))
  | _, _ => none
 | 49 => match xs, bs with
  | [.r (.ro tm__ qm_)], [] => (castL tm__ T0 qm_).bind fun m_ => some (.one (res_u34 (v_u34 k m_), bo_u34 m_ (v_u34 k m_)))
  | _, _ => none
 | 50 => match xs, bs with
  | [.r (.ro tl__ ql_)], [] => (castL tl__ T7 ql_).bind fun l_ => some (.one (res_u66 (v_u66 k l_), bo_u66 l_ (v_u66 k l_)))
  | _, _ => none
 | _ => none⟩
theorem of_u36 (k : Nat) (m_ : List (T0).T) (r : R_u36) (h : f_u36 k m_ = some r) : CC Try.prog 42 (args_u36 m_) (bin_u36 m_) (res_u36 r) (bo_u36 m_ r) := by
 refine CC.of (fn := Try.f42) (by kernel_rfl) (by kernel_rfl) (by kernel_rfl) (by kernel_rfl) ?_
 unfold f_u36 at h
 refine Ev.tree hm (R := Rt) (K := (K_u36 k)) (l := []) (C := []) (E := [.autoB [2] true []]) (n := 1000) (T := .need [CC Try.prog 49 (args_u34 m_) (bin_u34 m_) (res_u34 (v_u34 k m_)) (bo_u34 m_ (v_u34 k m_))] (.test (((v_u34 k m_).2 != (0 : Int))) (.leaf (res_u36 false) (bo_u36 m_ false)) (.need [CC Try.prog 50 (args_u66 (v_u34 k m_).1) (bin_u66 (v_u34 k m_).1) (res_u66 (v_u66 k (v_u34 k m_).1)) (bo_u66 (v_u34 k m_).1 (v_u66 k (v_u34 k m_).1))] (.test (((v_u66 k (v_u34 k m_).1).2 == (0 : Int))) (.need [((v_u66 k (v_u34 k m_).1).2 == (0 : Int)) = true, CC Try.prog 25 (args_u44 m_) (bin_u44 m_) (res_u44 (v_u44 k m_)) (bo_u44 m_ (v_u44 k m_))] (.leaf (res_u36 (true && (v_u66 k (v_u34 k m_).1).1 == v_u44 k m_)) (bo_u36 m_ (true && (v_u66 k (v_u34 k m_).1).1 == v_u44 k m_)))) (.need [((v_u66 k (v_u34 k m_).1).2 == (0 : Int)) = false] (.leaf (res_u36 false) (bo_u36 m_ false))))))) (by kernel_rfl) ?_
 by_cases q : ((f_u34 k m_).isSome = true)
 ·rw [if_pos q] at h
  refine ⟨(conjC (cc_u34 k m_ q) conj0), ?_⟩
  refine ⟨fun c => ?_, fun c => ?_⟩
  ·rw [cond_t (show (((v_u34 k m_).2 != (0 : Int))) = true from c)] at h
   cases h; exact ⟨rfl, rfl⟩
  ·rw [cond_f (show (((v_u34 k m_).2 != (0 : Int))) = false from c)] at h
   by_cases q : ((f_u66 k (v_u34 k m_).1).isSome = true)
   ·rw [if_pos q] at h
    refine ⟨(conjC (cc_u66 k (v_u34 k m_).1 q) conj0), ?_⟩
    refine ⟨fun c => ?_, fun c => ?_⟩
    ·rw [cond_t (show (((v_u66 k (v_u34 k m_).1).2 == (0 : Int))) = true from c)] at h
     by_cases q : (((v_u66 k (v_u34 k m_).1).2 == (0 : Int)) = true) ∧ ((f_u44 k m_).isSome = true)
     ·rw [if_pos q] at h
      refine ⟨(conjC q.1 (conjC (cc_u44 k m_ q.2) conj0)), ?_⟩
      cases h; exact ⟨rfl, rfl⟩
     ·rw [if_neg q] at h; cases h
    ·rw [cond_f (show (((v_u66 k (v_u34 k m_).1).2 == (0 : Int))) = false from c)] at h
     by_cases q : (((v_u66 k (v_u34 k m_).1).2 == (0 : Int)) = false)
     ·rw [if_pos q] at h
      refine ⟨(conjC q conj0), ?_⟩
      cases h; exact ⟨rfl, rfl⟩
     ·rw [if_neg q] at h; cases h
   ·rw [if_neg q] at h; cases h
 ·rw [if_neg q] at h; cases h
theorem cc_u36 (k : Nat) (m_ : List (T0).T) (h : (f_u36 k m_).isSome = true) : CC Try.prog 42 (args_u36 m_) (bin_u36 m_) (res_u36 (v_u36 k m_)) (bo_u36 m_ (v_u36 k m_)) := by
 cases e : f_u36 k m_ with
 | none => rw [e] at h; cases h
 | some r => rw [show v_u36 k m_ = r by simp [v_u36, e]]; exact of_u36 k m_ r e

end
end Go.AM
namespace Go.AM
open Go Go.Proofs

/-! ### maps: the program's functions and the reference's -/
theorem iso_image_s (k : Nat) (r : Rn) (x : Int) (h1 : -4611686018427387904 ≤ r.1) (h2 : r.1 ≤ 4611686018427387903) (h3 : -4611686018427387904 ≤ x) (h4 : x ≤ 4611686018427387903) : f_u42 k r x = some (img r x) := by
  unfold f_u42 img
  cases r.2.2
  · rw [cond_false, wrap_id (by omega) (by omega), if_neg (by decide)]
  · rw [cond_true, wrap_id (by omega) (by omega), if_pos rfl]
theorem iso_image_v (k : Nat) (r : Rn) (x : Int) (h1 : -4611686018427387904 ≤ r.1) (h2 : r.1 ≤ 4611686018427387903) (h3 : -4611686018427387904 ≤ x) (h4 : x ≤ 4611686018427387903) : v_u42 k r x = img r x := by
  unfold v_u42; rw [iso_image_s k r x h1 h2 h3 h4]; rfl
/-- a test of a run alone, as the program has it -/
theorem good_test {r : Rn} : good r ↔ ¬ ((decide (r.2.1 < 1) || decide (r.2.1 > 17179869184) || decide (r.1 < 0) || decide (r.1 ≥ 17179869184)) = true) ∧ ¬ ((r.2.2 && decide (r.1 - r.2.1 + 1 < 0) || (!r.2.2) && decide (r.1 + r.2.1 > 17179869184)) = true) := by
  unfold good
  simp only [Bool.or_eq_true, decide_eq_true_eq, Bool.and_eq_true, Bool.not_eq_true', not_or, not_and]
  constructor
  · rintro ⟨h1, h2, h3, h4, h5, h6⟩
    refine ⟨⟨⟨⟨by omega, by omega⟩, by omega⟩, by omega⟩, fun h => ?_, fun h => ?_⟩
    · have := h5 h; omega
    · have := h6 h; omega
  · rintro ⟨⟨⟨⟨h1, h2⟩, h3⟩, h4⟩, h5, h6⟩
    refine ⟨by omega, by omega, by omega, by omega, fun h => ?_, fun h => ?_⟩
    · have := h5 h; omega
    · have := h6 h; omega

/-- the error of a map, run by run -/
def chkGo : Int → List Rn → Int
  | n, [] => if n > 17179869184 then 21 else 0
  | n, r :: t => if good r then chkGo (n + r.2.1) t else 1
theorem chkGo_eq : ∀ (m : List Rn) (n : Int), chkGo n m = if goods m then (if n + lenS m > 17179869184 then 21 else 0) else 1
  | [], n => by simp [chkGo, goods, lenS]
  | r :: t, n => by
    unfold chkGo
    by_cases h : good r
    · rw [if_pos h, chkGo_eq t]
      by_cases h2 : goods t
      · rw [if_pos h2, if_pos (show goods (r :: t) from ⟨h, h2⟩)]
        rw [show n + lenS (r :: t) = n + r.2.1 + lenS t by simp only [lenS]; omega]
      · rw [if_neg h2, if_neg (fun h3 : goods (r :: t) => h2 h3.2)]
    · rw [if_neg h, if_neg (fun h3 : goods (r :: t) => h h3.1)]
theorem chk_go (m : List Rn) : chk m = if m.length > 256 then 8 else chkGo 0 m := by
  unfold chk; rw [chkGo_eq, Int.zero_add]

theorem iso_Check_l (k : Nat) (m : List Rn) (hm : m.length ≤ 256) : ∀ (j i : Nat) (n : Int), i ≤ m.length → m.length - i < j → 0 ≤ n → n ≤ (i : Int) * 17179869184 →
    f_u31_5 k j n m (m.length : Int) (i : Int) = some (chkGo n (m.drop i)) := by
  intro j
  induction j with
  | zero => intros; omega
  | succ j ih =>
    intro i n hi hj h0 hn
    unfold f_u31_5
    by_cases h : i < m.length
    · rw [decide_eq_true (by omega : (i : Int) < (m.length : Int)), cond_true, if_pos ⟨by omega, by omega⟩, drop_cons' m i T0.dflt h]
      rw [Int.toNat_natCast]
      unfold chkGo
      by_cases hg : good (m.getD i T0.dflt)
      · obtain ⟨t1, t2⟩ := good_test.1 hg
        have hr := hg
        obtain ⟨g1, g2, g3, g4, _, _⟩ := hr
        rw [if_pos hg, Bool.eq_false_iff.2 t1, cond_false, wrap_id (i := (m.getD i T0.dflt).fst - (m.getD i T0.dflt).snd.fst) (by omega) (by omega), wrap_id (i := (m.getD i T0.dflt).fst - (m.getD i T0.dflt).snd.fst + 1) (by omega) (by omega), wrap_id (i := (m.getD i T0.dflt).fst + (m.getD i T0.dflt).snd.fst) (by omega) (by omega), Bool.eq_false_iff.2 t2, cond_false, wrap_id (i := n + (m.getD i T0.dflt).snd.fst) (by omega) (by omega), wrapS i (by omega)]
        exact ih (i + 1) _ (by omega) (by omega) (by omega) (by omega)
      · rw [if_neg hg]
        by_cases t1 : (decide ((m.getD i T0.dflt).2.1 < 1) || decide ((m.getD i T0.dflt).2.1 > 17179869184) || decide ((m.getD i T0.dflt).1 < 0) || decide ((m.getD i T0.dflt).1 ≥ 17179869184)) = true
        · rw [t1, cond_true]
        · have t2 := fun t2 => hg (good_test.2 ⟨t1, t2⟩)
          have t2 := Classical.not_not.1 t2
          have t3 := t1
          simp only [Bool.or_eq_true, decide_eq_true_eq, not_or] at t3
          obtain ⟨⟨⟨q1, q2⟩, q3⟩, q4⟩ := t3
          rw [Bool.eq_false_iff.2 t1, cond_false, wrap_id (i := (m.getD i T0.dflt).fst - (m.getD i T0.dflt).snd.fst) (by omega) (by omega), wrap_id (i := (m.getD i T0.dflt).fst - (m.getD i T0.dflt).snd.fst + 1) (by omega) (by omega), wrap_id (i := (m.getD i T0.dflt).fst + (m.getD i T0.dflt).snd.fst) (by omega) (by omega), t2, cond_true]
    · rw [decide_eq_false (by omega : ¬ (i : Int) < (m.length : Int)), cond_false, drop_all m i (by omega)]
      unfold chkGo
      by_cases h : n > 17179869184
      · rw [decide_eq_true h, cond_true, if_pos h]
      · rw [decide_eq_false h, cond_false, if_neg h]
theorem iso_Check_s (k : Nat) (hk : 300 ≤ k) (m : List Rn) : f_u31 k m = some (chk m) := by
  unfold f_u31
  rw [chk_go]
  by_cases h : m.length > 256
  · rw [decide_eq_true (by omega : (m.length : Int) > 256), cond_true, if_pos h]
  · rw [decide_eq_false (by omega : ¬ (m.length : Int) > 256), cond_false, if_neg h]
    exact iso_Check_l k m (by omega) k 0 0 (by omega) (by omega) (by omega) (by omega)
theorem iso_Check_v (k : Nat) (hk : 300 ≤ k) (m : List Rn) : v_u31 k m = chk m := by
  unfold v_u31; rw [iso_Check_s k hk]; rfl

theorem iso_length_l (k : Nat) (m : List Rn) (hg : goods m) (hm : m.length ≤ 1000) : ∀ (j i : Nat) (n : Int), i ≤ m.length → m.length - i < j → 0 ≤ n → n ≤ (i : Int) * 17179869184 →
    f_u44_3 k j n m (m.length : Int) (i : Int) = some (n + lenS (m.drop i)) := by
  intro j
  induction j with
  | zero => intros; omega
  | succ j ih =>
    intro i n hi hj h0 hn
    unfold f_u44_3
    by_cases h : i < m.length
    · have hgr : good (m.getD i T0.dflt) := hg.mem _ (by simp [h])
      rw [decide_eq_true (by omega : (i : Int) < (m.length : Int)), cond_true, if_pos ⟨by omega, by omega⟩, drop_cons' m i T0.dflt h]
      rw [Int.toNat_natCast]
      generalize m.getD i T0.dflt = r at hgr
      obtain ⟨g1, g2, _⟩ := hgr
      rw [wrap_id (i := n + r.snd.fst) (by omega) (by omega), wrapS i (by omega), ih (i + 1) _ (by omega) (by omega) (by omega) (by omega)]
      simp only [lenS, Int.add_assoc]
    · rw [decide_eq_false (by omega : ¬ (i : Int) < (m.length : Int)), cond_false, drop_all m i (by omega)]
      simp [lenS]
theorem iso_length_s (k : Nat) (m : List Rn) (hg : goods m) (hm : m.length ≤ 1000) (hk : m.length < k) : f_u44 k m = some (lenS m) := by
  unfold f_u44
  have := iso_length_l k m hg hm k 0 0 (by omega) (by omega) (by omega) (by omega)
  rw [Int.zero_add] at this
  exact this
theorem iso_length_v (k : Nat) (m : List Rn) (hg : goods m) (hm : m.length ≤ 1000) (hk : m.length < k) : v_u44 k m = lenS m := by
  unfold v_u44; rw [iso_length_s k m hg hm hk]; rfl

end Go.AM
namespace Go.AM
open Go Go.Proofs

/-! ### a normal form with a further run -/
/-- runs of moderate numbers -/
def Bnd (r : Rn) : Prop := -1125899906842624 ≤ r.1 ∧ r.1 ≤ 1125899906842624 ∧ 0 ≤ r.2.1 ∧ r.2.1 ≤ 1125899906842624
theorem good.bnd {r : Rn} (h : good r) : Bnd r := by
  obtain ⟨h1, h2, h3, h4, _⟩ := h
  exact ⟨by omega, by omega, by omega, by omega⟩

theorem addS_nil (r : Rn) (h : ¬ r.2.1 < 1) : addS [] r = [prt r 0 r.2.1] := by
  unfold addS; rw [if_neg h]; rfl
theorem addS_last (pre : List Rn) (c r : Rn) (h : ¬ r.2.1 < 1) : addS (pre ++ [c]) r = (bif apart c r then pre ++ [c] ++ [prt r 0 r.2.1]
      else bif decide (r.2.1 > 1) && !(r.2.2 == (stp c r == -1)) then pre ++ [(c.1, c.2.1 + 1, stp c r == -1), prt r 1 (r.2.1 - 1)]
      else pre ++ [(c.1, c.2.1 + r.2.1, stp c r == -1)]) := by
  unfold addS; rw [if_neg h]; simp
theorem addS_zero (b : List Rn) (r : Rn) (h : r.2.1 < 1) : addS b r = b := by unfold addS; rw [if_pos h]

theorem prt_zero (r : Rn) (n : Int) : prt (prt r 1 n) 0 n = prt r 1 n := by
  unfold prt
  have e : img (img r 1, n, r.2.2 && decide (n > 1)) 0 = img r 1 := by
    unfold img; cases r.2.2 && decide (n > 1) <;> simp
  rw [e]
  simp
theorem prt_bnd {r : Rn} (h : Bnd r) {x n : Int} (h0 : 0 ≤ x) (h1 : x ≤ r.2.1) (h2 : 0 ≤ n) (h3 : n ≤ r.2.1) : -2251799813685248 ≤ (prt r x n).1 ∧ (prt r x n).1 ≤ 2251799813685248 ∧ (prt r x n).2.1 = n := by
  obtain ⟨b1, b2, b3, b4⟩ := h
  unfold prt img
  refine ⟨?_, ?_, rfl⟩ <;> cases r.2.2 <;> simp only [Bool.false_eq_true, if_false, if_true] <;> omega

theorem apart_turn {c r : Rn} (hc : 1 ≤ c.2.1) (h1 : apart c r = false) (h3 : (r.2.2 == (stp c r == -1)) = false) : apart (c.1, c.2.1 + 1, stp c r == -1) (prt r 1 (r.2.1 - 1)) = true := by
  obtain ⟨ca, cl, cb⟩ := c
  obtain ⟨ra, rl, rb⟩ := r
  unfold apart at h1
  simp only [Bool.or_eq_false_iff] at h1
  obtain ⟨h1, h2⟩ := h1
  have hs : stp (ca, cl, cb) (ra, rl, rb) = 1 ∨ stp (ca, cl, cb) (ra, rl, rb) = -1 := by
    generalize stp (ca, cl, cb) (ra, rl, rb) = s at h1
    by_cases e1 : s = 1
    · exact .inl e1
    · by_cases e2 : s = -1
      · exact .inr e2
      · simp [e1, e2] at h1
  have hcl : (1 : Int) ≤ cl := hc
  unfold apart
  rw [Bool.or_eq_true]
  right
  rw [Bool.and_eq_true]
  refine ⟨decide_eq_true (show cl + 1 > 1 by omega), ?_⟩
  rcases hs with hs | hs
  · rw [hs] at h2 h3
    have hrb : rb = true := by cases rb <;> simp_all
    subst hrb
    have hcb : cl > 1 → cb = false := fun h => by
      rw [decide_eq_true (show (ca, cl, cb).2.1 > 1 from h), Bool.true_and] at h2
      cases cb
      · rfl
      · simp at h2
    rw [hs]
    have e : stp (ca, cl + 1, (1 : Int) == -1) (prt (ra, rl, true) 1 (rl - 1)) = -1 := by
      unfold stp img at hs
      unfold stp prt img
      simp only [show ((1 : Int) == -1) = false from rfl, Bool.false_eq_true, if_false, if_true] at hs ⊢
      by_cases hl : cl > 1
      · rw [hcb hl] at hs; simp only [Bool.false_eq_true, if_false] at hs; omega
      · cases cb <;> simp only [Bool.false_eq_true, if_false, if_true] at hs <;> omega
    show (!((stp (ca, cl + 1, (1 : Int) == -1) (prt (ra, rl, true) 1 (rl - 1)) == -1) == ((1 : Int) == -1))) = true
    rw [e]; rfl
  · rw [hs] at h2 h3
    have hrb : rb = false := by cases rb <;> simp_all
    subst hrb
    have hcb : cl > 1 → cb = true := fun h => by
      rw [decide_eq_true (show (ca, cl, cb).2.1 > 1 from h), Bool.true_and] at h2
      cases cb
      · simp at h2
      · rfl
    rw [hs]
    have e : stp (ca, cl + 1, (-1 : Int) == -1) (prt (ra, rl, false) 1 (rl - 1)) = 1 := by
      unfold stp img at hs
      unfold stp prt img
      simp only [show ((-1 : Int) == -1) = true from rfl, Bool.false_eq_true, if_false, if_true] at hs ⊢
      by_cases hl : cl > 1
      · rw [hcb hl] at hs; simp only [if_true] at hs; omega
      · cases cb <;> simp only [Bool.false_eq_true, if_false, if_true] at hs <;> omega
    show (!((stp (ca, cl + 1, (-1 : Int) == -1) (prt (ra, rl, false) 1 (rl - 1)) == -1) == ((-1 : Int) == -1))) = true
    rw [e]; rfl

theorem iso_part_s (k : Nat) (r : Rn) (x n : Int) (h1 : -4611686018427387904 ≤ r.1) (h2 : r.1 ≤ 4611686018427387903) (h3 : -4611686018427387904 ≤ x) (h4 : x ≤ 4611686018427387903) : f_u45 k r x n = some (prt r x n) := by
  unfold f_u45 prt
  rw [iso_image_s k r x h1 h2 h3 h4, iso_image_v k r x h1 h2 h3 h4]; rfl
theorem iso_part_v (k : Nat) (r : Rn) (x n : Int) (h1 : -4611686018427387904 ≤ r.1) (h2 : r.1 ≤ 4611686018427387903) (h3 : -4611686018427387904 ≤ x) (h4 : x ≤ 4611686018427387903) : v_u45 k r x n = prt r x n := by
  unfold v_u45; rw [iso_part_s k r x n h1 h2 h3 h4]; rfl
theorem last_idx (pre : List Rn) (c : Rn) (h : pre.length < 4611686018427387904) : (IntKind.i64.wrap (((pre ++ [c]).length : Int) - 1)).toNat = pre.length := by
  rw [List.length_append, List.length_singleton, wrap_id (by omega) (by omega)]; omega
theorem last_get (pre : List Rn) (c d : Rn) : (pre ++ [c]).getD pre.length d = c := by simp
theorem last_set (pre : List Rn) (c d : Rn) : (pre ++ [c]).set pre.length d = pre ++ [d] := by simp

/-- adding where the run begins anew -/
theorem iso_add_new (k : Nat) (pre : List Rn) (c r : Rn) (hl : pre.length ≤ 1000000000) (hr : ¬ r.2.1 < 1) (b1 : -9007199254740992 ≤ r.1 ∧ r.1 ≤ 9007199254740992) (hc : -9007199254740992 ≤ c.1 ∧ c.1 ≤ 9007199254740992 ∧ 1 ≤ c.2.1 ∧ c.2.1 ≤ 9007199254740992) (ha : apart c r = true) :
    f_u37 (k + 1) (pre ++ [c]) r = some (pre ++ [c] ++ [prt r 0 r.2.1]) := by
  have hi := last_idx pre c (by omega)
  have hlen : (pre ++ [c]).length = pre.length + 1 := by simp
  have hst : IntKind.i64.wrap (r.fst - img c (c.snd.fst - 1)) = stp c r := by
    unfold stp
    refine wrap_id ?_ ?_ <;> unfold img <;> cases c.2.2 <;> simp only [Bool.false_eq_true, if_false, if_true] <;> omega
  unfold f_u37
  rw [decide_eq_false hr, cond_false, show (((pre ++ [c]).length : Int) == 0) = false by rw [hlen]; exact beqf (by omega), cond_false, hi, last_get]
  rw [wrap_id (i := c.snd.fst - 1) (by omega) (by omega), iso_image_s k c _ (by omega) (by omega) (by omega) (by omega), iso_image_v k c _ (by omega) (by omega) (by omega) (by omega), hst]
  rw [if_pos (by rw [hlen, wrap_id (by omega) (by omega)]; exact ⟨by omega, by omega⟩), Option.isSome_some, if_pos rfl]
  have ha' : ((stp c r != 1 && stp c r != -1) || decide (c.snd.fst > 1) && !((stp c r == -1) == c.snd.snd)) = true := ha
  rw [ha', cond_true, iso_part_s k r 0 _ (by omega) (by omega) (by omega) (by omega), iso_part_v k r 0 _ (by omega) (by omega) (by omega) (by omega), if_pos ⟨rfl, by rw [hlen, List.length_singleton]; omega⟩]

theorem iso_add_s (k : Nat) (hk : 4 ≤ k) (b : List Rn) (r : Rn) (hl : b.length ≤ 1000000000) (hr : Bnd r) (hb : ∀ c ∈ b, Bnd c ∧ 1 ≤ c.2.1) : f_u37 k b r = some (addS b r) := by
  obtain ⟨k, rfl⟩ : ∃ m, k = m + 1 := ⟨k - 1, by omega⟩
  obtain ⟨r1, r2, r3, r4⟩ := hr
  by_cases h0 : r.2.1 < 1
  · rw [addS_zero _ _ h0]; unfold f_u37; rw [decide_eq_true h0, cond_true]
  rcases List.eq_nil_or_concat b with rfl | ⟨pre, c, rfl⟩
  · rw [addS_nil _ h0]
    unfold f_u37
    rw [decide_eq_false h0, cond_false, show ((([] : List Rn).length : Int) == 0) = true from rfl, cond_true, iso_part_s k r 0 _ (by omega) (by omega) (by omega) (by omega), iso_part_v k r 0 _ (by omega) (by omega) (by omega) (by omega), if_pos ⟨rfl, by simp⟩]
    rfl
  rw [List.concat_eq_append] at *
  obtain ⟨⟨c1, c2, c3, c4⟩, c5⟩ := hb c (by simp)
  have hlen : (pre ++ [c]).length = pre.length + 1 := by simp
  rw [addS_last _ _ _ h0]
  cases ha : apart c r with
  | true =>
    rw [cond_true]
    exact iso_add_new k pre c r (by omega) h0 ⟨by omega, by omega⟩ ⟨by omega, by omega, by omega, by omega⟩ ha
  | false =>
  rw [cond_false]
  have hi := last_idx pre c (by omega)
  have hst : IntKind.i64.wrap (r.fst - img c (c.snd.fst - 1)) = stp c r := by
    unfold stp
    refine wrap_id ?_ ?_ <;> unfold img <;> cases c.2.2 <;> simp only [Bool.false_eq_true, if_false, if_true] <;> omega
  have ha' : ((stp c r != 1 && stp c r != -1) || decide (c.snd.fst > 1) && !((stp c r == -1) == c.snd.snd)) = false := ha
  unfold f_u37
  rw [decide_eq_false h0, cond_false, show (((pre ++ [c]).length : Int) == 0) = false by rw [hlen]; exact beqf (by omega), cond_false, hi, last_get]
  rw [wrap_id (i := c.snd.fst - 1) (by omega) (by omega), iso_image_s k c _ (by omega) (by omega) (by omega) (by omega), iso_image_v k c _ (by omega) (by omega) (by omega) (by omega), hst]
  have hidx : (0 : Int) ≤ IntKind.i64.wrap (((pre ++ [c]).length : Int) - 1) ∧ IntKind.i64.wrap (((pre ++ [c]).length : Int) - 1) < ((pre ++ [c]).length : Int) := by
    rw [hlen, wrap_id (by omega) (by omega)]; exact ⟨by omega, by omega⟩
  rw [if_pos hidx, Option.isSome_some, if_pos rfl, ha', cond_false]
  rw [wrap_id (i := c.snd.fst + r.snd.fst) (by omega) (by omega), wrap_id (i := c.snd.fst + 1) (by omega) (by omega), wrap_id (i := r.snd.fst - r.snd.fst) (by omega) (by omega), wrap_id (i := r.snd.fst - 1) (by omega) (by omega), last_set, last_set]
  rw [iso_part_s k r r.snd.fst _ (by omega) (by omega) (by omega) (by omega), iso_part_v k r r.snd.fst _ (by omega) (by omega) (by omega) (by omega), iso_part_s k r 1 _ (by omega) (by omega) (by omega) (by omega), iso_part_v k r 1 _ (by omega) (by omega) (by omega) (by omega)]
  obtain ⟨k, rfl⟩ : ∃ m, k = m + 1 := ⟨k - 1, by omega⟩
  have z : ∀ (b : List Rn) (r : Rn), r.2.1 < 1 → f_u37 (k + 1) b r = some b := fun b r h => by
    unfold f_u37; rw [decide_eq_true h, cond_true]
  have w : ∀ (b b' : List Rn) (r : Rn), f_u37 (k + 1) b r = some b' → w_u37 (f_u37 (k + 1)) b r = b' := fun b b' r h => by
    unfold w_u37; rw [h]; rfl
  by_cases hone : r.2.1 > 1
  · rw [decide_eq_true hone, Bool.true_and, Bool.true_and]
    cases hd : (r.snd.snd == (stp c r == -1)) with
    | true =>
      rw [cond_true, Bool.not_true, cond_false, if_pos hidx]
      have e := z (pre ++ [(c.fst, c.snd.fst + r.snd.fst, stp c r == -1)]) (prt r r.snd.fst (r.snd.fst - r.snd.fst)) (by show r.snd.fst - r.snd.fst < 1; omega)
      rw [w _ _ _ e, e, if_pos ⟨rfl, rfl⟩]
    | false =>
      rw [cond_false, Bool.not_false, cond_true, if_pos hidx]
      obtain ⟨p1, p2, p3⟩ := prt_bnd (r := r) ⟨r1, r2, r3, r4⟩ (x := 1) (n := r.2.1 - 1) (by omega) (by omega) (by omega) (by omega)
      have e := iso_add_new k pre (c.fst, c.snd.fst + 1, stp c r == -1) (prt r 1 (r.snd.fst - 1)) (by omega) (by rw [p3]; omega) ⟨by omega, by omega⟩ ⟨by show -9007199254740992 ≤ c.1; omega, by show c.1 ≤ 9007199254740992; omega, by show 1 ≤ c.2.1 + 1; omega, by show c.2.1 + 1 ≤ 9007199254740992; omega⟩ (apart_turn c5 ha hd)
      rw [p3, prt_zero] at e
      rw [w _ _ _ e, e, if_pos ⟨rfl, rfl⟩]
      simp
  · have h1 : r.2.1 = 1 := by omega
    rw [decide_eq_false hone, Bool.false_and, Bool.false_and, cond_false, cond_false, if_pos hidx]
    have e := z (pre ++ [(c.fst, c.snd.fst + 1, stp c r == -1)]) (prt r 1 (r.snd.fst - 1)) (by show r.snd.fst - 1 < 1; omega)
    rw [w _ _ _ e, e, if_pos ⟨rfl, rfl⟩, h1]
theorem iso_add_v (k : Nat) (hk : 4 ≤ k) (b : List Rn) (r : Rn) (hl : b.length ≤ 1000000000) (hr : Bnd r) (hb : ∀ c ∈ b, Bnd c ∧ 1 ≤ c.2.1) : v_u37 k b r = addS b r := by
  unfold v_u37; rw [iso_add_s k hk b r hl hr hb]; rfl
end Go.AM
namespace Go.AM
open Go Go.Proofs

end Go.AM
