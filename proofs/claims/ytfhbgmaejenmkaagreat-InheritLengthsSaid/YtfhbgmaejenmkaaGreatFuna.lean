/- Contracts of the functions that the law reaches, and the plain law. -/
import Derived.Test.YtfhbgmaejenmkaaGreatLibb
import Derived.Test.YtfhbgmaejenmkaaGreatProg
import Derived.Laws.RangeAny
import Derived.Lib.IndexAny
import Derived.Shelf.Strings.IndexAnyAll
import Derived.Shelf.Small.Utf8
import Derived.Shelf.SlicesE.Clone
import Derived.Shelf.SlSortCmp.WholeK
import Derived.Shelf.SlSortCmp.NoneTotal
import Derived.Shelf.Sort.Plain
import Derived.Shelf.Slices.In.SortNone
import Derived.Shelf.Spec.SlicesGrow
import Derived.Shelf.SlGeneric
import Derived.Shelf.Small.Bits
import Derived.Ground.NamesProg
import Derived.Ground.Names2Prog
import Derived.Ground.Names8Prog
import Derived.Ground.SlgnProg
import Derived.Ground.SlsfProg
set_option linter.unusedVariables false
set_option linter.unusedSimpArgs false
set_option linter.unusedSectionVars false
namespace Go.AM
open Go

theorem take_snoc {α : Type} (l : List α) (i : Nat) (d : α) (h : i < l.length) : l.take (i + 1) = l.take i ++ [l.getD i d] := by
  rw [List.take_add_one]; simp [h]

/-! ### sets of integers as lists of spans -/
abbrev Sp := Int × Int

/-- x is in one of the spans -/
def has : List Sp → Int → Prop
  | [], _ => False
  | s :: t, x => (s.1 ≤ x ∧ x < s.2) ∨ has t x

theorem has_iff (l : List Sp) (x : Int) : has l x ↔ ∃ s ∈ l, s.1 ≤ x ∧ x < s.2 := by
  induction l with
  | nil => simp [has]
  | cons s t ih => simp [has, ih]

theorem has_perm {a b : List Sp} (h : a.Perm b) (x : Int) : has a x ↔ has b x := by
  rw [has_iff, has_iff]
  exact ⟨fun ⟨s, hs, h2⟩ => ⟨s, h.mem_iff.1 hs, h2⟩, fun ⟨s, hs, h2⟩ => ⟨s, h.mem_iff.2 hs, h2⟩⟩

/-- spans that have integers, in order, apart, all behind b -/
def Nr : Int → List Sp → Prop
  | _, [] => True
  | b, s :: t => b < s.1 ∧ s.1 < s.2 ∧ Nr s.2 t

theorem Nr.weaken {a b : Int} (h : a ≤ b) : ∀ {l : List Sp}, Nr b l → Nr a l
  | [], _ => trivial
  | _ :: _, ⟨h1, h2, h3⟩ => ⟨by omega, h2, h3⟩

theorem Nr.low : ∀ {b : Int} {l : List Sp}, Nr b l → ∀ x, has l x → b < x
  | _, [], _, x, hx => hx.elim
  | b, s :: t, ⟨h1, h2, h3⟩, x, hx => by
    rcases hx with ⟨h, _⟩ | hx
    · omega
    · have := Nr.low h3 x hx; omega

theorem Nr.uniq : ∀ {b : Int} {l m : List Sp}, Nr b l → Nr b m → (∀ x, has l x ↔ has m x) → l = m
  | _, [], [], _, _, _ => rfl
  | b, [], s :: t, _, ⟨h1, h2, _⟩, h => ((h s.1).2 (.inl ⟨by omega, h2⟩)).elim
  | b, s :: t, [], ⟨h1, h2, _⟩, _, h => ((h s.1).1 (.inl ⟨by omega, h2⟩)).elim
  | b, s :: t, u :: v, ⟨h1, h2, h3⟩, ⟨k1, k2, k3⟩, h => by
    have e1 : s.1 = u.1 := by
      have a1 := (h s.1).1 (.inl ⟨by omega, h2⟩)
      have a2 := (h u.1).2 (.inl ⟨by omega, k2⟩)
      rcases a1 with a1 | a1
      · rcases a2 with a2 | a2
        · omega
        · have := Nr.low h3 _ a2; omega
      · have := Nr.low k3 _ a1
        rcases a2 with a2 | a2
        · omega
        · have := Nr.low h3 _ a2; omega
    have e2 : s.2 = u.2 := by
      rcases Int.lt_trichotomy s.2 u.2 with hlt | heq | hgt
      · have a1 := (h s.2).2 (.inl ⟨by omega, hlt⟩)
        rcases a1 with a1 | a1
        · omega
        · have := Nr.low h3 _ a1; omega
      · exact heq
      · have a1 := (h u.2).1 (.inl ⟨by omega, hgt⟩)
        rcases a1 with a1 | a1
        · omega
        · have := Nr.low k3 _ a1; omega
    have e3 : s = u := Prod.ext e1 e2
    subst e3
    congr 1
    refine Nr.uniq h3 k3 fun x => ?_
    constructor
    · intro hx
      have := Nr.low h3 _ hx
      rcases (h x).1 (.inr hx) with a | a
      · omega
      · exact a
    · intro hx
      have := Nr.low k3 _ hx
      rcases (h x).2 (.inr hx) with a | a
      · omega
      · exact a

/-- the total of a list of spans -/
def tot : List Sp → Int
  | [] => 0
  | s :: t => (s.2 - s.1) + tot t

/-- joining spans that come in order of their beginnings -/
def jn : Sp → List Sp → List Sp
  | c, [] => [c]
  | c, s :: t => if s.1 ≥ s.2 then jn c t else if s.1 ≤ c.2 then jn (c.1, if s.2 > c.2 then s.2 else c.2) t else c :: jn s t
def jn0 : List Sp → List Sp
  | [] => []
  | s :: t => if s.1 ≥ s.2 then jn0 t else jn s t

def Asc : Int → List Sp → Prop
  | _, [] => True
  | b, s :: t => b ≤ s.1 ∧ Asc s.1 t
theorem Asc.weaken {a b : Int} (h : a ≤ b) : ∀ {l : List Sp}, Asc b l → Asc a l
  | [], _ => trivial
  | _ :: _, ⟨h1, h3⟩ => ⟨by omega, h3⟩

theorem jn_nr : ∀ (l : List Sp) (c : Sp) (b : Int), b < c.1 → c.1 < c.2 → Asc c.1 l → Nr b (jn c l)
  | [], c, b, h1, h2, _ => ⟨h1, h2, trivial⟩
  | s :: t, c, b, h1, h2, ⟨h3, h4⟩ => by
    unfold jn
    by_cases q : s.1 ≥ s.2
    · rw [if_pos q]; exact jn_nr t c b h1 h2 (h4.weaken h3)
    · rw [if_neg q]
      by_cases q2 : s.1 ≤ c.2
      · rw [if_pos q2]
        refine jn_nr t _ b h1 ?_ (h4.weaken h3)
        show c.1 < if s.2 > c.2 then s.2 else c.2
        split <;> omega
      · rw [if_neg q2]
        exact ⟨h1, h2, jn_nr t s c.2 (by omega) (by omega) h4⟩
theorem jn_has : ∀ (l : List Sp) (c : Sp) (x : Int), c.1 < c.2 → Asc c.1 l → (has (jn c l) x ↔ (c.1 ≤ x ∧ x < c.2) ∨ has l x)
  | [], c, x, _, _ => by simp [jn, has]
  | s :: t, c, x, h2, ⟨h3, h4⟩ => by
    unfold jn
    by_cases q : s.1 ≥ s.2
    · rw [if_pos q, jn_has t c x h2 (h4.weaken h3)]
      simp only [has]
      constructor
      · rintro (h | h)
        · exact .inl h
        · exact .inr (.inr h)
      · rintro (h | h | h)
        · exact .inl h
        · omega
        · exact .inr h
    · rw [if_neg q]
      by_cases q2 : s.1 ≤ c.2
      · rw [if_pos q2, jn_has t (c.1, if s.2 > c.2 then s.2 else c.2) x (by show c.1 < if s.2 > c.2 then s.2 else c.2; split <;> omega) (h4.weaken h3)]
        simp only [has]
        constructor
        · rintro (h | h)
          · by_cases q3 : x < c.2
            · exact .inl ⟨h.1, q3⟩
            · refine .inr (.inl ⟨by omega, ?_⟩)
              have := h.2
              split at this <;> omega
          · exact .inr (.inr h)
        · rintro (h | h | h)
          · exact .inl ⟨h.1, by split <;> omega⟩
          · exact .inl ⟨by omega, by split <;> omega⟩
          · exact .inr h
      · rw [if_neg q2]
        simp only [has, jn_has t s x (by omega) h4]
theorem jn0_nr : ∀ (l : List Sp) (b : Int), Asc (b + 1) l → Nr b (jn0 l)
  | [], b, _ => trivial
  | s :: t, b, ⟨h3, h4⟩ => by
    unfold jn0
    by_cases q : s.1 ≥ s.2
    · rw [if_pos q]; exact jn0_nr t b (h4.weaken h3)
    · rw [if_neg q]; exact jn_nr t s b (by omega) (by omega) h4
theorem jn0_has : ∀ (l : List Sp) (b x : Int), Asc b l → (has (jn0 l) x ↔ has l x)
  | [], b, x, _ => Iff.rfl
  | s :: t, b, x, ⟨h3, h4⟩ => by
    unfold jn0
    by_cases q : s.1 ≥ s.2
    · rw [if_pos q, jn0_has t _ x h4]
      simp only [has]
      exact ⟨.inr, fun h => h.elim (fun h => by omega) id⟩
    · rw [if_neg q, jn_has t s x (by omega) h4]; rfl

theorem jn_len : ∀ (l : List Sp) (c : Sp), (jn c l).length ≤ l.length + 1
  | [], c => by simp [jn]
  | s :: t, c => by
    unfold jn
    split
    · have := jn_len t c; simp; omega
    · split
      · have := jn_len t (c.1, if s.2 > c.2 then s.2 else c.2); simp at this ⊢; omega
      · have := jn_len t s; simp; omega
theorem jn0_len : ∀ (l : List Sp), (jn0 l).length ≤ l.length
  | [] => Nat.le_refl _
  | s :: t => by
    unfold jn0
    split
    · have := jn0_len t; simp; omega
    · have := jn_len t s; simpa using this

/-- spans within bounds -/
def In (a b : Int) : List Sp → Prop
  | [] => True
  | s :: t => (a ≤ s.1 ∧ s.1 ≤ s.2 ∧ s.2 ≤ b) ∧ In a b t
theorem In.mem {a b : Int} : ∀ {l : List Sp}, In a b l → ∀ s ∈ l, a ≤ s.1 ∧ s.1 ≤ s.2 ∧ s.2 ≤ b
  | [], _, s, hs => by simp at hs
  | u :: t, ⟨h1, h2⟩, s, hs => by
    rcases List.mem_cons.1 hs with rfl | hs
    · exact h1
    · exact In.mem h2 s hs
theorem In.of {a b : Int} : ∀ {l : List Sp}, (∀ s ∈ l, a ≤ s.1 ∧ s.1 ≤ s.2 ∧ s.2 ≤ b) → In a b l
  | [], _ => trivial
  | u :: t, h => ⟨h u (by simp), In.of fun s hs => h s (by simp [hs])⟩
theorem jn_in {a b : Int} : ∀ (l : List Sp) (c : Sp), In a b l → (a ≤ c.1 ∧ c.1 ≤ c.2 ∧ c.2 ≤ b) → In a b (jn c l)
  | [], c, _, hc => ⟨hc, trivial⟩
  | s :: t, c, ⟨h1, h2⟩, hc => by
    unfold jn
    split
    · exact jn_in t c h2 hc
    · split
      · refine jn_in t _ h2 ⟨hc.1, ?_, ?_⟩
        · show c.1 ≤ if s.2 > c.2 then s.2 else c.2
          split <;> omega
        · show (if s.2 > c.2 then s.2 else c.2) ≤ b
          split <;> omega
      · exact ⟨hc, jn_in t s h2 h1⟩
theorem jn0_in {a b : Int} : ∀ (l : List Sp), In a b l → In a b (jn0 l)
  | [], h => h
  | s :: t, ⟨h1, h2⟩ => by
    unfold jn0
    split
    · exact jn0_in t h2
    · exact jn_in t s h2 h1
end Go.AM
namespace Go.AM
open Go

/-! ### maps of integers as lists of runs -/
abbrev Rn := Int × Int × Bool   -- At, Len, Back

def good (r : Rn) : Prop := 1 ≤ r.2.1 ∧ r.2.1 ≤ 17179869184 ∧ 0 ≤ r.1 ∧ r.1 < 17179869184 ∧ (r.2.2 = true → 0 ≤ r.1 - r.2.1 + 1) ∧ (r.2.2 = false → r.1 + r.2.1 ≤ 17179869184)
instance (r : Rn) : Decidable (good r) := by unfold good; infer_instance

def lenS : List Rn → Int
  | [] => 0
  | r :: t => r.2.1 + lenS t

def goods : List Rn → Prop
  | [] => True
  | r :: t => good r ∧ goods t
instance : (l : List Rn) → Decidable (goods l)
  | [] => .isTrue trivial
  | r :: t => @instDecidableAnd _ _ _ (instDecidableGoods t)

/-- the error of a map -/
def chk (m : List Rn) : Int := if m.length > 256 then 8 else if goods m then (if lenS m > 17179869184 then 21 else 0) else 1

theorem lenS_append (a b : List Rn) : lenS (a ++ b) = lenS a + lenS b := by
  induction a with
  | nil => simp [lenS]
  | cons r t ih => simp only [List.cons_append, lenS, ih]; omega
theorem goods_append (a b : List Rn) : goods (a ++ b) ↔ goods a ∧ goods b := by
  induction a with
  | nil => simp [goods]
  | cons r t ih => simp only [List.cons_append, goods, ih]; exact and_assoc.symm
theorem goods.mem : ∀ {l : List Rn}, goods l → ∀ r ∈ l, good r
  | [], _, r, h => by simp at h
  | u :: t, ⟨h1, h2⟩, r, hr => by
    rcases List.mem_cons.1 hr with rfl | hr
    · exact h1
    · exact goods.mem h2 r hr
theorem goods.of : ∀ {l : List Rn}, (∀ r ∈ l, good r) → goods l
  | [], _ => trivial
  | u :: t, h => ⟨h u (by simp), goods.of fun r hr => h r (by simp [hr])⟩
theorem lenS_nonneg : ∀ {l : List Rn}, goods l → (l.length : Int) ≤ lenS l
  | [], _ => by simp [lenS]
  | r :: t, ⟨h1, h2⟩ => by
    have := lenS_nonneg h2
    have := h1.1
    simp only [lenS, List.length_cons]; omega
structure Chk (m : List Rn) : Prop where
  len : m.length ≤ 256
  goods : goods m
  tot : lenS m ≤ 17179869184
theorem chk_zero {m : List Rn} : chk m = 0 ↔ Chk m := by
  unfold chk
  constructor
  · intro h
    by_cases h1 : m.length > 256
    · rw [if_pos h1] at h; omega
    · rw [if_neg h1] at h
      by_cases h2 : goods m
      · rw [if_pos h2] at h
        by_cases h3 : lenS m > 17179869184
        · rw [if_pos h3] at h; omega
        · exact ⟨by omega, h2, by omega⟩
      · rw [if_neg h2] at h; omega
  · rintro ⟨h1, h2, h3⟩
    rw [if_neg (by omega), if_pos h2, if_neg (by omega)]

/-- the image of an integer of a run -/
def img (r : Rn) (x : Int) : Int := if r.2.2 = true then r.1 - x else r.1 + x

/-- the image of an integer of a map -/
def imgAt : List Rn → Int → Int
  | [], _ => 0
  | r :: t, x => if x < r.2.1 then img r x else imgAt t (x - r.2.1)

def lo (r : Rn) : Int := if r.2.2 = true then r.1 - r.2.1 + 1 else r.1
def hi (r : Rn) : Int := if r.2.2 = true then r.1 else r.1 + r.2.1 - 1
/-- the span of the images of a run -/
def spn (r : Rn) : Sp := (lo r, hi r + 1)

theorem good.lohi {r : Rn} (h : good r) : 0 ≤ lo r ∧ lo r ≤ hi r ∧ hi r < 17179869184 ∧ hi r - lo r + 1 = r.2.1 := by
  obtain ⟨h1, h2, h3, h4, h5, h6⟩ := h
  unfold lo hi
  cases hb : r.2.2
  · have := h6 hb; simp only [Bool.false_eq_true, if_false]; omega
  · have := h5 hb; simp only [if_true]; omega
theorem img_mem {r : Rn} {x : Int} (h0 : 0 ≤ x) (h1 : x < r.2.1) : lo r ≤ img r x ∧ img r x ≤ hi r := by
  unfold lo hi img
  cases r.2.2 <;> simp only [Bool.false_eq_true, if_false, if_true] <;> omega

/-- n integers of a run, from the integer x on -/
def prt (r : Rn) (x n : Int) : Rn := (img r x, n, r.2.2 && decide (n > 1))

def stp (c r : Rn) : Int := r.1 - img c (c.2.1 - 1)
/-- does a run begin anew behind another one? -/
def apart (c r : Rn) : Bool := (stp c r != 1 && stp c r != -1) || (decide (c.2.1 > 1) && !((stp c r == -1) == c.2.2))
/-- a normal form with a further run -/
def addS (b : List Rn) (r : Rn) : List Rn :=
  if r.2.1 < 1 then b else match b.getLast? with
    | none => b ++ [prt r 0 r.2.1]
    | some c => bif apart c r then b ++ [prt r 0 r.2.1]
      else bif decide (r.2.1 > 1) && !(r.2.2 == (stp c r == -1)) then b.dropLast ++ [(c.1, c.2.1 + 1, stp c r == -1), prt r 1 (r.2.1 - 1)]
      else b.dropLast ++ [(c.1, c.2.1 + r.2.1, stp c r == -1)]

def adds (b : List Rn) (l : List Rn) : List Rn := l.foldl addS b

/-- the pieces of a part of a map -/
def pieces : List Rn → Int → Int → List Rn
  | [], _, _ => []
  | r :: t, a, b =>
    (if max a 0 < min b r.2.1 then [prt r (max a 0) (min b r.2.1 - max a 0)] else []) ++ pieces t (a - r.2.1) (b - r.2.1)

/-- a piece from its end -/
def rvs1 (p : Rn) : Rn := (img p (p.2.1 - 1), p.2.1, !p.2.2 && decide (p.2.1 > 1))

/-- the pieces of outer that an inner run comes to, in its order -/
def steps (outer : List Rn) (r : Rn) : List Rn :=
  if r.2.2 = true then ((pieces outer (r.1 - r.2.1 + 1) (r.1 + 1)).reverse).map rvs1 else pieces outer r.1 (r.1 + r.2.1)

/-- does a map come out of another one? -/
def fitsIn (n : Int) : List Rn → Prop
  | [] => True
  | r :: t => hi r < n ∧ fitsIn n t
instance (n : Int) : (l : List Rn) → Decidable (fitsIn n l)
  | [] => .isTrue trivial
  | r :: t => @instDecidableAnd _ _ _ (instDecidableFitsIn n t)

/-- the composition, in normal form, without its limit -/
def compS (inner outer : List Rn) : List Rn := inner.foldl (fun b r => adds b (steps outer r)) []

/-- the composition or its error -/
def comp (inner outer : List Rn) : List Rn × Int :=
  if chk inner ≠ 0 then ([], chk inner) else if chk outer ≠ 0 then ([], chk outer) else if ¬ fitsIn (lenS outer) inner then ([], 21)
  else if (compS inner outer).length > 256 then ([], 8) else (compS inner outer, 0)
end Go.AM
namespace Go.AM
open Go Go.Proofs
noncomputable section
abbrev I : RTy := .int .i64
abbrev t7 : RTy := (RTy.pair I (RTy.pair I (RTy.pair RTy.bool (RTy.int .u8))))
abbrev t8 : RTy := (RTy.pair I (RTy.pair I (RTy.pair RTy.bool (RTy.int .u8))))
abbrev t13 : RTy := (RTy.pair RTy.str (RTy.int .u64))
abbrev t14 : RTy := (RTy.pair RTy.str (RTy.int .u64))
abbrev T0 : RTy := (RTy.pair I (RTy.pair I RTy.bool))
abbrev T1 : RTy := (RTy.pair I (RTy.pair I (RTy.pair RTy.bool (RTy.list T0))))
abbrev T2 : RTy := (RTy.pair I (RTy.pair I T1))
abbrev T3 : RTy := (RTy.pair I (RTy.pair I (RTy.pair I I)))
abbrev T4 : RTy := (RTy.pair T3 (RTy.pair I I))
abbrev t24 : RTy := (RTy.pair (RTy.list T2) (RTy.pair I (RTy.pair I (RTy.list T4))))
abbrev T5 : RTy := (RTy.pair (RTy.list T2) (RTy.pair I (RTy.pair I (RTy.list T4))))
abbrev t31 : RTy := (RTy.pair I I)
abbrev T6 : RTy := (RTy.pair I I)
abbrev T7 : RTy := (RTy.pair I I)
abbrev t41 : RTy := (RTy.pair I (RTy.pair I (RTy.pair I I)))
abbrev t49 : RTy := (RTy.pair I (RTy.pair I I))
abbrev T8 : RTy := (RTy.pair I (RTy.pair I I))
abbrev T9 : RTy := (RTy.pair I (RTy.pair I I))
abbrev t56 : RTy := (RTy.pair I (RTy.pair I (RTy.pair RTy.bool (RTy.list T0))))
abbrev t58 : RTy := (RTy.pair I (RTy.pair I T1))
abbrev t61 : RTy := (RTy.pair T3 (RTy.pair I I))
abbrev T10 : RTy := (RTy.pair I I)
abbrev t71 : RTy := (RTy.pair I I)
abbrev t83 : RTy := RTy.fn
abbrev T11 : RTy := RTy.fn
abbrev t89 : RTy := (RTy.pair I (RTy.pair I RTy.bool))
abbrev t103 : RTy := (RTy.list T0)
abbrev T12 : RTy := (RTy.list T0)
abbrev t182 : RTy := RTy.unit
abbrev t183 : RTy := RTy.unit
instance : GT Tryz.prog := ⟨fun _ => True, fun _ _ _ h => h⟩
def Rt : Tab := lookT [(1, RTy.fn), (2, I), (3, I), (4, RTy.bool), (5, (RTy.int .u8)), (6, (RTy.int .u8)), (7, t7), (8, t8), (9, RTy.str), (10, RTy.str), (11, RTy.str), (12, (RTy.int .u64)), (13, t13), (14, t14), (21, (RTy.int .i32)), (22, (RTy.list T2)), (23, (RTy.list T4)), (24, t24), (25, T5), (26, RTy.fn), (27, RTy.fn), (28, I), (30, RTy.fn), (31, t31), (32, T6), (33, RTy.fn), (34, RTy.fn), (35, T7), (37, RTy.fn), (38, RTy.fn), (39, RTy.fn), (40, RTy.fn), (41, t41), (42, T3), (43, (RTy.list T3)), (45, RTy.fn), (46, RTy.fn), (47, RTy.fn), (48, RTy.fn), (49, t49), (50, T8), (51, RTy.fn), (52, RTy.fn), (53, T9), (54, RTy.fn), (55, (RTy.list T0)), (56, t56), (57, T1), (58, t58), (59, T2), (60, RTy.fn), (61, t61), (62, T4), (64, RTy.fn), (65, RTy.fn), (67, RTy.fn), (68, (RTy.list T10)), (70, RTy.fn), (71, t71), (72, T10), (73, RTy.fn), (75, RTy.fn), (76, RTy.fn), (77, RTy.fn), (78, RTy.fn), (80, RTy.fn), (81, RTy.fn), (82, RTy.fn), (83, t83), (84, T11), (85, RTy.fn), (86, RTy.fn), (87, RTy.fn), (88, RTy.fn), (89, t89), (90, T0), (93, RTy.fn), (94, RTy.fn), (95, RTy.fn), (96, RTy.fn), (97, RTy.fn), (99, RTy.fn), (100, RTy.fn), (101, RTy.fn), (102, RTy.fn), (103, t103), (104, T12), (105, RTy.fn), (106, RTy.fn), (107, RTy.fn), (108, RTy.fn), (109, RTy.fn), (110, RTy.fn), (111, RTy.fn), (112, RTy.fn), (113, RTy.fn), (114, RTy.fn), (118, RTy.fn), (119, RTy.fn), (120, RTy.fn), (121, RTy.fn), (122, RTy.fn), (123, RTy.fn), (124, RTy.fn), (126, RTy.fn), (127, RTy.fn), (128, RTy.fn), (129, RTy.fn), (131, RTy.fn), (132, (RTy.list I)), (133, RTy.fn), (134, RTy.fn), (135, RTy.fn), (136, RTy.fn), (137, RTy.fn), (138, RTy.fn), (139, RTy.fn), (140, (RTy.int .u64)), (141, RTy.fn), (142, RTy.fn), (143, RTy.fn), (144, (RTy.list (RTy.list T10))), (145, RTy.fn), (146, RTy.fn), (147, RTy.fn), (148, RTy.fn), (149, RTy.fn), (150, I), (152, RTy.fn), (153, RTy.fn), (154, RTy.fn), (155, RTy.fn), (156, RTy.fn), (157, (RTy.int .u32)), (158, RTy.fn), (159, (RTy.int .u64)), (160, RTy.fn), (161, RTy.fn), (162, RTy.fn), (163, RTy.fn), (164, RTy.fn), (165, RTy.fn), (166, RTy.fn), (167, (RTy.int .u64)), (168, RTy.fn), (169, RTy.fn), (170, RTy.fn), (172, RTy.fn), (173, RTy.fn), (174, RTy.fn), (176, RTy.fn), (177, RTy.fn), (178, RTy.fn), (181, RTy.unit), (182, t182), (183, t183), (184, RTy.fn), (185, (RTy.int .u8)), (186, (RTy.int .u8)), (187, RTy.fn), (189, (RTy.int .i32)), (190, (RTy.int .i32))]
theorem hm : Tryz.prog.follows .mixedOrders = true := by kernel_rfl
theorem go (K : Calld) (l : List Nat) (C : List (Nat × List Cmd)) (E : List Cmd) {fn : Wy} {m : Nat} {todo : List Item} {st : St} {res : AV} {bout : List (Nat × Blk)} {T : Tree} (h : T.gives Tryz.prog fn m res bout) (e : tree Tryz.prog Rt K fn.rd m l fn.fn.results.toList C E 1000 todo st = T) : Ev Tryz.prog fn m todo st res bout := Ev.tree hm (R := Rt) (K := K) e h
abbrev R_u17 : Type := Int
def res_u17 (r : R_u17) : AV := .r (.v (.int .i64 r))
def bo_u17 (m_ : List (T0).T) (r : R_u17) : List (Nat × Blk) := []
def args_u17 (m_ : List (T0).T) : List AV := [.r (.ro T0 m_)]
def bin_u17 (m_ : List (T0).T) : List Blk := []
abbrev C_u17 (m_ : List (T0).T) (r : R_u17) : Prop := CC Tryz.prog 44 (args_u17 m_) (bin_u17 m_) (res_u17 r) (bo_u17 m_ r)
def st_u17_5 (y0 : Int) (y1 : List (T0).T) (y2 : Int) (y3 : Int) : St := ⟨mkS 64 [(3, .r (.v (.int .i64 y0))), (9, .r (.ro T0 y1)), (10, .r (.v (.int .i64 y2))), (11, .r (.v (.int .i64 y3)))], []⟩
def f_u17_5 (k : Nat) : Nat → Int → List (T0).T → Int → Int → Option R_u17
  | 0, _, _, _, _ => none
  | j + 1, y0, y1, y2, y3 =>
  bif (decide (y3 < y2)) then
  if (0 ≤ y3) ∧ (y3 < (↑y1.length : Int)) then
  bif (decide ((y1.getD y3.toNat T0.dflt).2.1 < (1 : Int)) || decide ((y1.getD y3.toNat T0.dflt).2.1 > (17179869184 : Int)) || decide ((y1.getD y3.toNat T0.dflt).1 < (0 : Int)) || decide ((y1.getD y3.toNat T0.dflt).1 ≥ (17179869184 : Int))) then
  some 1
  else
  bif ((y1.getD y3.toNat T0.dflt).2.2 && decide (IntKind.i64.wrap (IntKind.i64.wrap ((y1.getD y3.toNat T0.dflt).1 - (y1.getD y3.toNat T0.dflt).2.1) + (1 : Int)) < (0 : Int)) || (! (y1.getD y3.toNat T0.dflt).2.2) && decide (IntKind.i64.wrap ((y1.getD y3.toNat T0.dflt).1 + (y1.getD y3.toNat T0.dflt).2.1) > (17179869184 : Int))) then
  some 1
  else
  f_u17_5 k j ((IntKind.i64.wrap (y0 + (y1.getD y3.toNat T0.dflt).2.1))) y1 y2 ((IntKind.i64.wrap (y3 + 1)))
  else none
  else
  bif (decide (y0 > (17179869184 : Int))) then
  some 21
  else
  some 0
def f_u17 (k : Nat) (m_ : List (T0).T) : Option R_u17 :=
  bif (decide ((↑m_.length : Int) > (256 : Int))) then
  some 8
  else
  f_u17_5 k k 0 m_ ((↑m_.length : Int)) 0
def v_u17 (k : Nat) (m_ : List (T0).T) : R_u17 := (f_u17 k m_).getD 0
def ke_u17 (k : Nat) : Ke := (44, fun xs => match xs with
  | [_] => some [false]
  | _ => none, fun xs bs => match xs, bs with
  | [.r (.ro tm__ qm_)], [] => (castL tm__ T0 qm_).bind fun m_ => some (.one (res_u17 (v_u17 k m_), bo_u17 m_ (v_u17 k m_)))
  | _, _ => none)
def cs_u17 : List (Nat × List Cmd) := [(5, [.autoB [3, 9, 10, 11] false []])]
abbrev E_u17 (m_ : List (T0).T) (todo : List Item) (st : St) (o : Option R_u17) : Prop := ∀ r, o = some r → Ev Tryz.prog Tryz.f44 0 todo st (res_u17 r) (bo_u17 m_ r)
theorem ev_u17 (k : Nat) (m_ : List (T0).T) : ∀ j, (∀ (y0 : Int) (y1 : List (T0).T) (y2 : Int) (y3 : Int), E_u17 m_ (placeAt Tryz.f44 5) (st_u17_5 y0 y1 y2 y3) (f_u17_5 k j y0 y1 y2 y3))
  | 0 => fun _ _ _ _ _ h => nomatch h
  | j + 1 => by
    have ih := @ev_u17 k m_ j
    · intro y0 y1 y2 y3 r h
      rw [f_u17_5] at h
      exact go (mkK []) [] cs_u17 [.autoB [2] true []] (gT h (fun c h => gN2 h fun h => gT h (fun c h => gL h) fun c h => gT h (fun c h => gL h) fun c h => gC h 5 (ih _ _ _ _ _)) fun c h => gT h (fun c h => gL h) fun c h => gL h) (by kernel_rfl)
theorem of_u17 (k : Nat) (m_ : List (T0).T) (r : R_u17) (h : f_u17 k m_ = some r) : C_u17 m_ r := by
  refine CC.of (fn := Tryz.f44) (by kernel_rfl) (by kernel_rfl) (by kernel_rfl) (by kernel_rfl) ?_
  unfold f_u17 at h
  exact go (mkK []) [] cs_u17 [.autoB [2] true []] (gT h (fun c h => gL h) fun c h => gC h 5 ((ev_u17 k m_ k) _ _ _ _ _)) (by kernel_rfl)
theorem cc_u17 {k : Nat} {m_ : List (T0).T} (h : (f_u17 k m_).isSome = true) : C_u17 m_ (v_u17 k m_) := ccG (Φ := C_u17 m_) h (of_u17 k m_)
abbrev R_u31 : Type := Int
def res_u31 (r : R_u31) : AV := .r (.v (.int .i64 r))
def bo_u31 (m_ : List (T0).T) (r : R_u31) : List (Nat × Blk) := []
def args_u31 (m_ : List (T0).T) : List AV := [.r (.ro T0 m_)]
def bin_u31 (m_ : List (T0).T) : List Blk := []
abbrev C_u31 (m_ : List (T0).T) (r : R_u31) : Prop := CC Tryz.prog 52 (args_u31 m_) (bin_u31 m_) (res_u31 r) (bo_u31 m_ r)
def st_u31_3 (y0 : Int) (y1 : List (T0).T) (y2 : Int) (y3 : Int) : St := ⟨mkS 18 [(3, .r (.v (.int .i64 y0))), (6, .r (.ro T0 y1)), (7, .r (.v (.int .i64 y2))), (8, .r (.v (.int .i64 y3)))], []⟩
def f_u31_3 (k : Nat) : Nat → Int → List (T0).T → Int → Int → Option R_u31
  | 0, _, _, _, _ => none
  | j + 1, y0, y1, y2, y3 =>
  bif (decide (y3 < y2)) then
  if (0 ≤ y3) ∧ (y3 < (↑y1.length : Int)) then
  f_u31_3 k j ((IntKind.i64.wrap (y0 + (y1.getD y3.toNat T0.dflt).2.1))) y1 y2 ((IntKind.i64.wrap (y3 + 1)))
  else none
  else
  some y0
def f_u31 (k : Nat) (m_ : List (T0).T) : Option R_u31 :=
  f_u31_3 k k 0 m_ ((↑m_.length : Int)) 0
def v_u31 (k : Nat) (m_ : List (T0).T) : R_u31 := (f_u31 k m_).getD 0
def ke_u31 (k : Nat) : Ke := (52, fun xs => match xs with
  | [_] => some [false]
  | _ => none, fun xs bs => match xs, bs with
  | [.r (.ro tm__ qm_)], [] => (castL tm__ T0 qm_).bind fun m_ => some (.one (res_u31 (v_u31 k m_), bo_u31 m_ (v_u31 k m_)))
  | _, _ => none)
def cs_u31 : List (Nat × List Cmd) := [(3, [.autoB [3, 6, 7, 8] false []])]
abbrev E_u31 (m_ : List (T0).T) (todo : List Item) (st : St) (o : Option R_u31) : Prop := ∀ r, o = some r → Ev Tryz.prog Tryz.f52 0 todo st (res_u31 r) (bo_u31 m_ r)
theorem ev_u31 (k : Nat) (m_ : List (T0).T) : ∀ j, (∀ (y0 : Int) (y1 : List (T0).T) (y2 : Int) (y3 : Int), E_u31 m_ (placeAt Tryz.f52 3) (st_u31_3 y0 y1 y2 y3) (f_u31_3 k j y0 y1 y2 y3))
  | 0 => fun _ _ _ _ _ h => nomatch h
  | j + 1 => by
    have ih := @ev_u31 k m_ j
    · intro y0 y1 y2 y3 r h
      rw [f_u31_3] at h
      exact go (mkK []) [] cs_u31 [.autoB [2] true []] (gT h (fun c h => gN2 h fun h => gC h 3 (ih _ _ _ _ _)) fun c h => gL h) (by kernel_rfl)
theorem of_u31 (k : Nat) (m_ : List (T0).T) (r : R_u31) (h : f_u31 k m_ = some r) : C_u31 m_ r := by
  refine CC.of (fn := Tryz.f52) (by kernel_rfl) (by kernel_rfl) (by kernel_rfl) (by kernel_rfl) ?_
  unfold f_u31 at h
  exact go (mkK []) [] cs_u31 [.autoB [2] true []] (gC h 3 ((ev_u31 k m_ k) _ _ _ _ _)) (by kernel_rfl)
theorem cc_u31 {k : Nat} {m_ : List (T0).T} (h : (f_u31 k m_).isSome = true) : C_u31 m_ (v_u31 k m_) := ccG (Φ := C_u31 m_) h (of_u31 k m_)
abbrev R_u29 : Type := Int
def res_u29 (r : R_u29) : AV := .r (.v (.int .i64 r))
def bo_u29 (r_ : T0.T) (x_ : Int) (r : R_u29) : List (Nat × Blk) := []
def args_u29 (r_ : T0.T) (x_ : Int) : List AV := [.agg (rvs (enc T0 r_)), .r (.v (.int .i64 x_))]
def bin_u29 (r_ : T0.T) (x_ : Int) : List Blk := []
abbrev C_u29 (r_ : T0.T) (x_ : Int) (r : R_u29) : Prop := CC Tryz.prog 65 (args_u29 r_ x_) (bin_u29 r_ x_) (res_u29 r) (bo_u29 r_ x_ r)
def f_u29 (k : Nat) (r_ : T0.T) (x_ : Int) : Option R_u29 :=
  bif r_.2.2 then
  some (IntKind.i64.wrap (r_.1 - x_))
  else
  some (IntKind.i64.wrap (r_.1 + x_))
def v_u29 (k : Nat) (r_ : T0.T) (x_ : Int) : R_u29 := (f_u29 k r_ x_).getD 0
def ke_u29 (k : Nat) : Ke := (65, fun xs => match xs with
  | [_, _] => some [false, false]
  | _ => none, fun xs bs => match xs, bs with
  | [.agg qr_, .r (.v (.int .i64 x_))], [] => (decS [] T0 qr_).bind fun r_ => some (.one (res_u29 (v_u29 k r_ x_), bo_u29 r_ x_ (v_u29 k r_ x_)))
  | _, _ => none)
theorem of_u29 (k : Nat) (r_ : T0.T) (x_ : Int) (r : R_u29) (h : f_u29 k r_ x_ = some r) : C_u29 r_ x_ r := by
  refine CC.of (fn := Tryz.f65) (by kernel_rfl) (by kernel_rfl) (by kernel_rfl) (by kernel_rfl) ?_
  unfold f_u29 at h
  exact go (mkK []) [] [] [.autoB [4] true []] (gT h (fun c h => gL h) fun c h => gL h) (by kernel_rfl)
theorem cc_u29 {k : Nat} {r_ : T0.T} {x_ : Int} (h : (f_u29 k r_ x_).isSome = true) : C_u29 r_ x_ (v_u29 k r_ x_) := ccG (Φ := C_u29 r_ x_) h (of_u29 k r_ x_)
abbrev R_u32 : Type := T0.T
def res_u32 (r : R_u32) : AV := .agg (rvs (enc T0 r))
def bo_u32 (r_ : T0.T) (x_ : Int) (n_ : Int) (r : R_u32) : List (Nat × Blk) := []
def args_u32 (r_ : T0.T) (x_ : Int) (n_ : Int) : List AV := [.agg (rvs (enc T0 r_)), .r (.v (.int .i64 x_)), .r (.v (.int .i64 n_))]
def bin_u32 (r_ : T0.T) (x_ : Int) (n_ : Int) : List Blk := []
abbrev C_u32 (r_ : T0.T) (x_ : Int) (n_ : Int) (r : R_u32) : Prop := CC Tryz.prog 74 (args_u32 r_ x_ n_) (bin_u32 r_ x_ n_) (res_u32 r) (bo_u32 r_ x_ n_ r)
def f_u32 (k : Nat) (r_ : T0.T) (x_ : Int) (n_ : Int) : Option R_u32 :=
  if ((f_u29 k r_ x_).isSome = true) then
  some ((v_u29 k r_ x_, (n_, r_.2.2 && decide (n_ > 1))))
  else none
def v_u32 (k : Nat) (r_ : T0.T) (x_ : Int) (n_ : Int) : R_u32 := (f_u32 k r_ x_ n_).getD (T0).dflt
def ke_u32 (k : Nat) : Ke := (74, fun xs => match xs with
  | [_, _, _] => some [false, false, false]
  | _ => none, fun xs bs => match xs, bs with
  | [.agg qr_, .r (.v (.int .i64 x_)), .r (.v (.int .i64 n_))], [] => (decS [] T0 qr_).bind fun r_ => some (.one (res_u32 (v_u32 k r_ x_ n_), bo_u32 r_ x_ n_ (v_u32 k r_ x_ n_)))
  | _, _ => none)
theorem of_u32 (k : Nat) (r_ : T0.T) (x_ : Int) (n_ : Int) (r : R_u32) (h : f_u32 k r_ x_ n_ = some r) : C_u32 r_ x_ n_ r := by
  refine CC.of (fn := Tryz.f74) (by kernel_rfl) (by kernel_rfl) (by kernel_rfl) (by kernel_rfl) ?_
  unfold f_u32 at h
  exact go (mkK [ke_u29 k]) [] [] [.autoB [6] true []] (gN1 h (fun q => cc_u29 q) fun h => gL h) (by kernel_rfl)
theorem cc_u32 {k : Nat} {r_ : T0.T} {x_ : Int} {n_ : Int} (h : (f_u32 k r_ x_ n_).isSome = true) : C_u32 r_ x_ n_ (v_u32 k r_ x_ n_) := ccG (Φ := C_u32 r_ x_ n_) h (of_u32 k r_ x_ n_)
abbrev R_u25 : Type := List (T0).T
def res_u25 (r : R_u25) : AV := .tup []
def bo_u25 (b_0 : List (T0).T) (r_ : T0.T) (r : R_u25) : List (Nat × Blk) := [(0, .var 104 [.own 1 1]), (1, .row 90 T0 r)]
def args_u25 (b_0 : List (T0).T) (r_ : T0.T) : List AV := [.ptr 0 0 0, .agg (rvs (enc T0 r_))]
def bin_u25 (b_0 : List (T0).T) (r_ : T0.T) : List Blk := [.var 104 [.own 1 0], .row 90 T0 b_0]
abbrev C_u25 (b_0 : List (T0).T) (r_ : T0.T) (r : R_u25) : Prop := CC Tryz.prog 54 (args_u25 b_0 r_) (bin_u25 b_0 r_) (res_u25 r) (bo_u25 b_0 r_ r)
def w_u25 (g : List (T0).T → T0.T → Option R_u25) (b_0 : List (T0).T) (r_ : T0.T) : R_u25 := (g b_0 r_).getD []
def f_u25 : Nat → List (T0).T → T0.T → Option R_u25
  | 0, _, _ => none
  | k + 1, b_0, r_ =>
  bif (decide (r_.2.1 < (1 : Int))) then
  some b_0
  else
  bif ((↑b_0.length : Int) == (0 : Int)) then
  if ((f_u32 k r_ 0 r_.2.1).isSome = true) ∧ ((b_0.length + [v_u32 k r_ (0 : Int) r_.2.1].length) * (24 : Nat) ≤ (140737488355328 : Nat)) then
  some (b_0 ++ [v_u32 k r_ 0 r_.2.1])
  else none
  else
  if ((0 : Int) ≤ IntKind.i64.wrap ((↑b_0.length : Int) - (1 : Int))) ∧ (IntKind.i64.wrap ((↑b_0.length : Int) - (1 : Int)) < (↑b_0.length : Int)) then
  if ((f_u29 k (b_0.getD (IntKind.i64.wrap ((↑b_0.length : Int) - 1)).toNat T0.dflt) (IntKind.i64.wrap ((b_0.getD (IntKind.i64.wrap ((↑b_0.length : Int) - 1)).toNat T0.dflt).2.1 - 1))).isSome = true) then
  bif (IntKind.i64.wrap (r_.1 - v_u29 k (b_0.getD (IntKind.i64.wrap ((↑b_0.length : Int) - (1 : Int))).toNat T0.dflt) (IntKind.i64.wrap ((b_0.getD (IntKind.i64.wrap ((↑b_0.length : Int) - (1 : Int))).toNat T0.dflt).2.1 - (1 : Int)))) != (1 : Int) && IntKind.i64.wrap (r_.1 - v_u29 k (b_0.getD (IntKind.i64.wrap ((↑b_0.length : Int) - (1 : Int))).toNat T0.dflt) (IntKind.i64.wrap ((b_0.getD (IntKind.i64.wrap ((↑b_0.length : Int) - (1 : Int))).toNat T0.dflt).2.1 - (1 : Int)))) != (-1 : Int) || decide ((b_0.getD (IntKind.i64.wrap ((↑b_0.length : Int) - (1 : Int))).toNat T0.dflt).2.1 > (1 : Int)) && (! (IntKind.i64.wrap (r_.1 - v_u29 k (b_0.getD (IntKind.i64.wrap ((↑b_0.length : Int) - (1 : Int))).toNat T0.dflt) (IntKind.i64.wrap ((b_0.getD (IntKind.i64.wrap ((↑b_0.length : Int) - (1 : Int))).toNat T0.dflt).2.1 - (1 : Int)))) == (-1 : Int)) == (b_0.getD (IntKind.i64.wrap ((↑b_0.length : Int) - (1 : Int))).toNat T0.dflt).2.2)) then
  if ((f_u32 k r_ 0 r_.2.1).isSome = true) ∧ ((b_0.length + [v_u32 k r_ (0 : Int) r_.2.1].length) * (24 : Nat) ≤ (140737488355328 : Nat)) then
  some (b_0 ++ [v_u32 k r_ 0 r_.2.1])
  else none
  else
  bif (decide (r_.2.1 > (1 : Int)) && r_.2.2 == (IntKind.i64.wrap (r_.1 - v_u29 k (b_0.getD (IntKind.i64.wrap ((↑b_0.length : Int) - (1 : Int))).toNat T0.dflt) (IntKind.i64.wrap ((b_0.getD (IntKind.i64.wrap ((↑b_0.length : Int) - (1 : Int))).toNat T0.dflt).2.1 - (1 : Int)))) == (-1 : Int))) then
  if ((0 : Int) ≤ IntKind.i64.wrap ((↑b_0.length : Int) - (1 : Int))) ∧ (IntKind.i64.wrap ((↑b_0.length : Int) - (1 : Int)) < (↑b_0.length : Int)) then
  if ((f_u32 k r_ r_.2.1 (IntKind.i64.wrap (r_.2.1 - r_.2.1))).isSome = true) ∧ ((f_u25 k (b_0.set (IntKind.i64.wrap ((↑b_0.length : Int) - 1)).toNat ((b_0.getD (IntKind.i64.wrap ((↑b_0.length : Int) - 1)).toNat T0.dflt).1, IntKind.i64.wrap ((b_0.getD (IntKind.i64.wrap ((↑b_0.length : Int) - 1)).toNat T0.dflt).2.1 + r_.2.1), IntKind.i64.wrap (r_.1 - v_u29 k (b_0.getD (IntKind.i64.wrap ((↑b_0.length : Int) - 1)).toNat T0.dflt) (IntKind.i64.wrap ((b_0.getD (IntKind.i64.wrap ((↑b_0.length : Int) - 1)).toNat T0.dflt).2.1 - 1))) == (-1))) (v_u32 k r_ r_.2.1 (IntKind.i64.wrap (r_.2.1 - r_.2.1)))).isSome = true) then
  some (w_u25 (f_u25 k) (b_0.set (IntKind.i64.wrap ((↑b_0.length : Int) - 1)).toNat ((b_0.getD (IntKind.i64.wrap ((↑b_0.length : Int) - 1)).toNat T0.dflt).1, IntKind.i64.wrap ((b_0.getD (IntKind.i64.wrap ((↑b_0.length : Int) - 1)).toNat T0.dflt).2.1 + r_.2.1), IntKind.i64.wrap (r_.1 - v_u29 k (b_0.getD (IntKind.i64.wrap ((↑b_0.length : Int) - 1)).toNat T0.dflt) (IntKind.i64.wrap ((b_0.getD (IntKind.i64.wrap ((↑b_0.length : Int) - 1)).toNat T0.dflt).2.1 - 1))) == (-1))) (v_u32 k r_ r_.2.1 (IntKind.i64.wrap (r_.2.1 - r_.2.1))))
  else none
  else none
  else
  if ((0 : Int) ≤ IntKind.i64.wrap ((↑b_0.length : Int) - (1 : Int))) ∧ (IntKind.i64.wrap ((↑b_0.length : Int) - (1 : Int)) < (↑b_0.length : Int)) then
  if ((f_u32 k r_ 1 (IntKind.i64.wrap (r_.2.1 - 1))).isSome = true) ∧ ((f_u25 k (b_0.set (IntKind.i64.wrap ((↑b_0.length : Int) - 1)).toNat ((b_0.getD (IntKind.i64.wrap ((↑b_0.length : Int) - 1)).toNat T0.dflt).1, IntKind.i64.wrap ((b_0.getD (IntKind.i64.wrap ((↑b_0.length : Int) - 1)).toNat T0.dflt).2.1 + 1), IntKind.i64.wrap (r_.1 - v_u29 k (b_0.getD (IntKind.i64.wrap ((↑b_0.length : Int) - 1)).toNat T0.dflt) (IntKind.i64.wrap ((b_0.getD (IntKind.i64.wrap ((↑b_0.length : Int) - 1)).toNat T0.dflt).2.1 - 1))) == (-1))) (v_u32 k r_ 1 (IntKind.i64.wrap (r_.2.1 - 1)))).isSome = true) then
  some (w_u25 (f_u25 k) (b_0.set (IntKind.i64.wrap ((↑b_0.length : Int) - 1)).toNat ((b_0.getD (IntKind.i64.wrap ((↑b_0.length : Int) - 1)).toNat T0.dflt).1, IntKind.i64.wrap ((b_0.getD (IntKind.i64.wrap ((↑b_0.length : Int) - 1)).toNat T0.dflt).2.1 + 1), IntKind.i64.wrap (r_.1 - v_u29 k (b_0.getD (IntKind.i64.wrap ((↑b_0.length : Int) - 1)).toNat T0.dflt) (IntKind.i64.wrap ((b_0.getD (IntKind.i64.wrap ((↑b_0.length : Int) - 1)).toNat T0.dflt).2.1 - 1))) == (-1))) (v_u32 k r_ 1 (IntKind.i64.wrap (r_.2.1 - 1))))
  else none
  else none
  else none
  else none
def v_u25 (k : Nat) (b_0 : List (T0).T) (r_ : T0.T) : R_u25 := (f_u25 k b_0 r_).getD []
def ke_u25 (k : Nat) : Ke := (54, fun xs => match xs with
  | [.ptr _ _ _, _] => some [true, false]
  | _ => none, fun xs bs => match xs, bs with
  | [.ptr 0 0 0, .agg qr_], [.var 104 [.own 1 0], .row 90 tb_0_ qb_0] => (decS [] T0 qr_).bind fun r_ => (castL tb_0_ T0 qb_0).bind fun b_0 => some (.one (res_u25 (v_u25 k b_0 r_), bo_u25 b_0 r_ (v_u25 k b_0 r_)))
  | _, _ => none)
theorem of_u25 : ∀ (k : Nat) (b_0 : List (T0).T) (r_ : T0.T) (r : R_u25), f_u25 k b_0 r_ = some r → C_u25 b_0 r_ r
  | 0, b_0, r_, r, h => by simp [f_u25] at h
  | k + 1, b_0, r_, r, h => by
    have ih : ∀ {b_0 : List (T0).T} {r_ : T0.T}, (f_u25 k b_0 r_).isSome = true → C_u25 b_0 r_ (v_u25 k b_0 r_) := fun {b_0} {r_} h => ccG (Φ := C_u25 b_0 r_) h (of_u25 k b_0 r_)
    refine CC.of (fn := Tryz.f54) (by kernel_rfl) (by kernel_rfl) (by kernel_rfl) (by kernel_rfl) ?_
    rw [f_u25] at h
    exact go (mkK [ke_u29 k, ke_u32 k, ke_u25 k]) [] [] [.autoB [] true [1]] (gT h (fun c h => gL h) fun c h => gT h (fun c h => gN h (fun q => conjC (cc_u32 q.1) (conjC q.2 conj0)) fun h => gL h) fun c h => gN2 h fun h => gN1 h (fun q => cc_u29 q) fun h => gT h (fun c h => gN h (fun q => conjC (cc_u32 q.1) (conjC q.2 conj0)) fun h => gL h) fun c h => gT h (fun c h => gN2 h fun h => gN h (fun q => conjC (cc_u32 q.1) (conjC (ih q.2) conj0)) fun h => gL h) fun c h => gN2 h fun h => gN h (fun q => conjC (cc_u32 q.1) (conjC (ih q.2) conj0)) fun h => gL h) (by kernel_rfl)
theorem cc_u25 {k : Nat} {b_0 : List (T0).T} {r_ : T0.T} (h : (f_u25 k b_0 r_).isSome = true) : C_u25 b_0 r_ (v_u25 k b_0 r_) := ccG (Φ := C_u25 b_0 r_) h (of_u25 k b_0 r_)
abbrev R_u27 : Type := List (T0).T
def res_u27 (r : R_u27) : AV := .tup []
def bo_u27 (m_ : List (T0).T) (from_ : Int) (to_ : Int) (f_f00 : List (T0).T) (r : R_u27) : List (Nat × Blk) := [(0, .var 104 [.own 1 1]), (1, .row 90 T0 r)]
def args_u27 (m_ : List (T0).T) (from_ : Int) (to_ : Int) (f_f00 : List (T0).T) : List AV := [.r (.ro T0 m_), .r (.v (.int .i64 from_)), .r (.v (.int .i64 to_)), .fn (.func 54) [.ptr 0 0 0] []]
def bin_u27 (m_ : List (T0).T) (from_ : Int) (to_ : Int) (f_f00 : List (T0).T) : List Blk := [.var 104 [.own 1 0], .row 90 T0 f_f00]
abbrev C_u27 (m_ : List (T0).T) (from_ : Int) (to_ : Int) (f_f00 : List (T0).T) (r : R_u27) : Prop := CC Tryz.prog 53 (args_u27 m_ from_ to_ f_f00) (bin_u27 m_ from_ to_ f_f00) (res_u27 r) (bo_u27 m_ from_ to_ f_f00 r)
def st_u27_2 (m_ : List (T0).T) (from_ : Int) (to_ : Int) (f_f00 : List (T0).T) (y0 : Int) (y1 : Int) (y2 : Int) (y3 : List (T0).T) (y4 : Int) (y5 : Int) (y6 : List (T0).T) : St := ⟨mkS 46 [(1, .r (.v (.int .i64 y0))), (2, .r (.v (.int .i64 y1))), (3, .fn ((Fn.func 54)) [.ptr 0 0 0] []), (8, .r (.v (.int .i64 y2))), (13, .r (.ro T0 y3)), (14, .r (.v (.int .i64 y4))), (15, .r (.v (.int .i64 y5)))], [(0, 0, .var 104 [.own 1 1]), (1, 1, .row 90 T0 y6)]⟩
def f_u27_2 (k : Nat) (m_ : List (T0).T) (from_ : Int) (to_ : Int) (f_f00 : List (T0).T) : Nat → Int → Int → Int → List (T0).T → Int → Int → List (T0).T → Option R_u27
  | 0, _, _, _, _, _, _, _ => none
  | j + 1, y0, y1, y2, y3, y4, y5, y6 =>
  bif (decide (y5 < y4)) then
  if (0 ≤ y5) ∧ (y5 < (↑y3.length : Int)) then
  bif (decide ((if y2 > y0 then y2 else y0) < if IntKind.i64.wrap (y2 + (y3.getD y5.toNat T0.dflt).2.1) < y1 then IntKind.i64.wrap (y2 + (y3.getD y5.toNat T0.dflt).2.1) else y1)) then
  if ((f_u32 k (y3.getD y5.toNat T0.dflt) (IntKind.i64.wrap ((if y2 > y0 then y2 else y0) - y2)) (IntKind.i64.wrap ((if IntKind.i64.wrap (y2 + (y3.getD y5.toNat T0.dflt).2.1) < y1 then IntKind.i64.wrap (y2 + (y3.getD y5.toNat T0.dflt).2.1) else y1) - if y2 > y0 then y2 else y0))).isSome = true) ∧ ((f_u25 k y6 (v_u32 k (y3.getD y5.toNat T0.dflt) (IntKind.i64.wrap ((if y2 > y0 then y2 else y0) - y2)) (IntKind.i64.wrap ((if IntKind.i64.wrap (y2 + (y3.getD y5.toNat T0.dflt).2.1) < y1 then IntKind.i64.wrap (y2 + (y3.getD y5.toNat T0.dflt).2.1) else y1) - if y2 > y0 then y2 else y0)))).isSome = true) then
  f_u27_2 k m_ from_ to_ f_f00 j y0 y1 ((IntKind.i64.wrap (y2 + (y3.getD y5.toNat T0.dflt).2.1))) y3 y4 ((IntKind.i64.wrap (y5 + 1))) ((v_u25 k y6 (v_u32 k (y3.getD y5.toNat T0.dflt) (IntKind.i64.wrap ((if y2 > y0 then y2 else y0) - y2)) (IntKind.i64.wrap ((if IntKind.i64.wrap (y2 + (y3.getD y5.toNat T0.dflt).2.1) < y1 then IntKind.i64.wrap (y2 + (y3.getD y5.toNat T0.dflt).2.1) else y1) - if y2 > y0 then y2 else y0)))))
  else none
  else
  f_u27_2 k m_ from_ to_ f_f00 j y0 y1 ((IntKind.i64.wrap (y2 + (y3.getD y5.toNat T0.dflt).2.1))) y3 y4 ((IntKind.i64.wrap (y5 + 1))) y6
  else none
  else
  some y6
def f_u27 (k : Nat) (m_ : List (T0).T) (from_ : Int) (to_ : Int) (f_f00 : List (T0).T) : Option R_u27 :=
  f_u27_2 k m_ from_ to_ f_f00 k from_ to_ 0 m_ ((↑m_.length : Int)) 0 f_f00
def v_u27 (k : Nat) (m_ : List (T0).T) (from_ : Int) (to_ : Int) (f_f00 : List (T0).T) : R_u27 := (f_u27 k m_ from_ to_ f_f00).getD []
def ke_u27 (k : Nat) : Ke := (53, fun xs => match xs with
  | [_, _, _, .fn (.func 54) _ _] => some [false, false, false, true]
  | _ => none, fun xs bs => match xs, bs with
  | [.r (.ro tm__ qm_), .r (.v (.int .i64 from_)), .r (.v (.int .i64 to_)), .fn (.func 54) [.ptr 0 0 0] []], [.var 104 [.own 1 0], .row 90 tf_f00_ qf_f00] => (castL tm__ T0 qm_).bind fun m_ => (castL tf_f00_ T0 qf_f00).bind fun f_f00 => some (.one (res_u27 (v_u27 k m_ from_ to_ f_f00), bo_u27 m_ from_ to_ f_f00 (v_u27 k m_ from_ to_ f_f00)))
  | _, _ => none)
def cs_u27 : List (Nat × List Cmd) := [(2, [.autoB [1, 2, 3, 8, 13, 14, 15] false [1]])]
abbrev E_u27 (m_ : List (T0).T) (from_ : Int) (to_ : Int) (f_f00 : List (T0).T) (todo : List Item) (st : St) (o : Option R_u27) : Prop := ∀ r, o = some r → Ev Tryz.prog Tryz.f53 2 todo st (res_u27 r) (bo_u27 m_ from_ to_ f_f00 r)
theorem ev_u27 (k : Nat) (m_ : List (T0).T) (from_ : Int) (to_ : Int) (f_f00 : List (T0).T) : ∀ j, (∀ (y0 : Int) (y1 : Int) (y2 : Int) (y3 : List (T0).T) (y4 : Int) (y5 : Int) (y6 : List (T0).T), E_u27 m_ from_ to_ f_f00 (placeAt Tryz.f53 2) (st_u27_2 m_ from_ to_ f_f00 y0 y1 y2 y3 y4 y5 y6) (f_u27_2 k m_ from_ to_ f_f00 j y0 y1 y2 y3 y4 y5 y6))
  | 0 => fun _ _ _ _ _ _ _ _ h => nomatch h
  | j + 1 => by
    have ih := @ev_u27 k m_ from_ to_ f_f00 j
    · intro y0 y1 y2 y3 y4 y5 y6 r h
      rw [f_u27_2] at h
      exact go (mkK [ke_u32 k, ke_u25 k]) [] cs_u27 [.autoB [] true [1]] (gT h (fun c h => gN2 h fun h => gT h (fun c h => gN h (fun q => conjC (cc_u32 q.1) (conjC (cc_u25 q.2) conj0)) fun h => gC h 2 (ih _ _ _ _ _ _ _ _)) fun c h => gC h 2 (ih _ _ _ _ _ _ _ _)) fun c h => gL h) (by kernel_rfl)
theorem of_u27 (k : Nat) (m_ : List (T0).T) (from_ : Int) (to_ : Int) (f_f00 : List (T0).T) (r : R_u27) (h : f_u27 k m_ from_ to_ f_f00 = some r) : C_u27 m_ from_ to_ f_f00 r := by
  refine CC.of (fn := Tryz.f53) (by kernel_rfl) (by kernel_rfl) (by kernel_rfl) (by kernel_rfl) ?_
  unfold f_u27 at h
  exact go (mkK [ke_u32 k, ke_u25 k]) [] cs_u27 [.autoB [] true [1]] (gC h 2 ((ev_u27 k m_ from_ to_ f_f00 k) _ _ _ _ _ _ _ _)) (by kernel_rfl)
theorem cc_u27 {k : Nat} {m_ : List (T0).T} {from_ : Int} {to_ : Int} {f_f00 : List (T0).T} (h : (f_u27 k m_ from_ to_ f_f00).isSome = true) : C_u27 m_ from_ to_ f_f00 (v_u27 k m_ from_ to_ f_f00) := ccG (Φ := C_u27 m_ from_ to_ f_f00) h (of_u27 k m_ from_ to_ f_f00)
abbrev R_u19 : Type := List (T0).T
def res_u19 (r : R_u19) : AV := .tup []
def bo_u19 (p_ : T0.T) (z00 : List (T0).T) (r : R_u19) : List (Nat × Blk) := [(0, .var 55 [.own 1 1]), (1, .row 90 T0 r)]
def args_u19 (p_ : T0.T) (z00 : List (T0).T) : List AV := [.agg (rvs (enc T0 p_)), .ptr 0 0 0]
def bin_u19 (p_ : T0.T) (z00 : List (T0).T) : List Blk := [.var 55 [.own 1 0], .row 90 T0 z00]
abbrev C_u19 (p_ : T0.T) (z00 : List (T0).T) (r : R_u19) : Prop := CC Tryz.prog 80 (args_u19 p_ z00) (bin_u19 p_ z00) (res_u19 r) (bo_u19 p_ z00 r)
def f_u19 (k : Nat) (p_ : T0.T) (z00 : List (T0).T) : Option R_u19 :=
  if ((z00.length + [p_].length) * (24 : Nat) ≤ (140737488355328 : Nat)) then
  some (z00 ++ [p_])
  else none
def v_u19 (k : Nat) (p_ : T0.T) (z00 : List (T0).T) : R_u19 := (f_u19 k p_ z00).getD []
def ke_u19 (k : Nat) : Ke := (80, fun xs => match xs with
  | [_, .ptr _ _ _] => some [false, true]
  | _ => none, fun xs bs => match xs, bs with
  | [.agg qp_, .ptr 0 0 0], [.var 55 [.own 1 0], .row 90 tz00_ qz00] => (decS [] T0 qp_).bind fun p_ => (castL tz00_ T0 qz00).bind fun z00 => some (.one (res_u19 (v_u19 k p_ z00), bo_u19 p_ z00 (v_u19 k p_ z00)))
  | _, _ => none)
theorem of_u19 (k : Nat) (p_ : T0.T) (z00 : List (T0).T) (r : R_u19) (h : f_u19 k p_ z00 = some r) : C_u19 p_ z00 r := by
  refine CC.of (fn := Tryz.f80) (by kernel_rfl) (by kernel_rfl) (by kernel_rfl) (by kernel_rfl) ?_
  unfold f_u19 at h
  exact go (mkK []) [] [] [.autoB [] true [1]] (gN1 h id fun h => gL h) (by kernel_rfl)
theorem cc_u19 {k : Nat} {p_ : T0.T} {z00 : List (T0).T} (h : (f_u19 k p_ z00).isSome = true) : C_u19 p_ z00 (v_u19 k p_ z00) := ccG (Φ := C_u19 p_ z00) h (of_u19 k p_ z00)
abbrev R_u28 : Type := List (T0).T
def res_u28 (r : R_u28) : AV := .tup []
def bo_u28 (m_ : List (T0).T) (from_ : Int) (to_ : Int) (f_c00 : List (T0).T) (r : R_u28) : List (Nat × Blk) := [(0, .var 55 [.own 1 1]), (1, .row 90 T0 r)]
def args_u28 (m_ : List (T0).T) (from_ : Int) (to_ : Int) (f_c00 : List (T0).T) : List AV := [.r (.ro T0 m_), .r (.v (.int .i64 from_)), .r (.v (.int .i64 to_)), .fn (.func 80) [] [.ptr 0 0 0]]
def bin_u28 (m_ : List (T0).T) (from_ : Int) (to_ : Int) (f_c00 : List (T0).T) : List Blk := [.var 55 [.own 1 0], .row 90 T0 f_c00]
abbrev C_u28 (m_ : List (T0).T) (from_ : Int) (to_ : Int) (f_c00 : List (T0).T) (r : R_u28) : Prop := CC Tryz.prog 53 (args_u28 m_ from_ to_ f_c00) (bin_u28 m_ from_ to_ f_c00) (res_u28 r) (bo_u28 m_ from_ to_ f_c00 r)
def st_u28_2 (m_ : List (T0).T) (from_ : Int) (to_ : Int) (f_c00 : List (T0).T) (y0 : Int) (y1 : Int) (y2 : Int) (y3 : List (T0).T) (y4 : Int) (y5 : Int) (y6 : List (T0).T) : St := ⟨mkS 46 [(1, .r (.v (.int .i64 y0))), (2, .r (.v (.int .i64 y1))), (3, .fn ((Fn.func 80)) [] [.ptr 0 0 0]), (8, .r (.v (.int .i64 y2))), (13, .r (.ro T0 y3)), (14, .r (.v (.int .i64 y4))), (15, .r (.v (.int .i64 y5)))], [(0, 0, .var 55 [.own 1 1]), (1, 1, .row 90 T0 y6)]⟩
def f_u28_2 (k : Nat) (m_ : List (T0).T) (from_ : Int) (to_ : Int) (f_c00 : List (T0).T) : Nat → Int → Int → Int → List (T0).T → Int → Int → List (T0).T → Option R_u28
  | 0, _, _, _, _, _, _, _ => none
  | j + 1, y0, y1, y2, y3, y4, y5, y6 =>
  bif (decide (y5 < y4)) then
  if (0 ≤ y5) ∧ (y5 < (↑y3.length : Int)) then
  bif (decide ((if y2 > y0 then y2 else y0) < if IntKind.i64.wrap (y2 + (y3.getD y5.toNat T0.dflt).2.1) < y1 then IntKind.i64.wrap (y2 + (y3.getD y5.toNat T0.dflt).2.1) else y1)) then
  if ((f_u32 k (y3.getD y5.toNat T0.dflt) (IntKind.i64.wrap ((if y2 > y0 then y2 else y0) - y2)) (IntKind.i64.wrap ((if IntKind.i64.wrap (y2 + (y3.getD y5.toNat T0.dflt).2.1) < y1 then IntKind.i64.wrap (y2 + (y3.getD y5.toNat T0.dflt).2.1) else y1) - if y2 > y0 then y2 else y0))).isSome = true) ∧ ((f_u19 k (v_u32 k (y3.getD y5.toNat T0.dflt) (IntKind.i64.wrap ((if y2 > y0 then y2 else y0) - y2)) (IntKind.i64.wrap ((if IntKind.i64.wrap (y2 + (y3.getD y5.toNat T0.dflt).2.1) < y1 then IntKind.i64.wrap (y2 + (y3.getD y5.toNat T0.dflt).2.1) else y1) - if y2 > y0 then y2 else y0))) y6).isSome = true) then
  f_u28_2 k m_ from_ to_ f_c00 j y0 y1 ((IntKind.i64.wrap (y2 + (y3.getD y5.toNat T0.dflt).2.1))) y3 y4 ((IntKind.i64.wrap (y5 + 1))) ((v_u19 k (v_u32 k (y3.getD y5.toNat T0.dflt) (IntKind.i64.wrap ((if y2 > y0 then y2 else y0) - y2)) (IntKind.i64.wrap ((if IntKind.i64.wrap (y2 + (y3.getD y5.toNat T0.dflt).2.1) < y1 then IntKind.i64.wrap (y2 + (y3.getD y5.toNat T0.dflt).2.1) else y1) - if y2 > y0 then y2 else y0))) y6))
  else none
  else
  f_u28_2 k m_ from_ to_ f_c00 j y0 y1 ((IntKind.i64.wrap (y2 + (y3.getD y5.toNat T0.dflt).2.1))) y3 y4 ((IntKind.i64.wrap (y5 + 1))) y6
  else none
  else
  some y6
def f_u28 (k : Nat) (m_ : List (T0).T) (from_ : Int) (to_ : Int) (f_c00 : List (T0).T) : Option R_u28 :=
  f_u28_2 k m_ from_ to_ f_c00 k from_ to_ 0 m_ ((↑m_.length : Int)) 0 f_c00
def v_u28 (k : Nat) (m_ : List (T0).T) (from_ : Int) (to_ : Int) (f_c00 : List (T0).T) : R_u28 := (f_u28 k m_ from_ to_ f_c00).getD []
def ke_u28 (k : Nat) : Ke := (53, fun xs => match xs with
  | [_, _, _, .fn (.func 80) _ _] => some [false, false, false, true]
  | _ => none, fun xs bs => match xs, bs with
  | [.r (.ro tm__ qm_), .r (.v (.int .i64 from_)), .r (.v (.int .i64 to_)), .fn (.func 80) [] [.ptr 0 0 0]], [.var 55 [.own 1 0], .row 90 tf_c00_ qf_c00] => (castL tm__ T0 qm_).bind fun m_ => (castL tf_c00_ T0 qf_c00).bind fun f_c00 => some (.one (res_u28 (v_u28 k m_ from_ to_ f_c00), bo_u28 m_ from_ to_ f_c00 (v_u28 k m_ from_ to_ f_c00)))
  | _, _ => none)
def cs_u28 : List (Nat × List Cmd) := [(2, [.autoB [1, 2, 3, 8, 13, 14, 15] false [1]])]
abbrev E_u28 (m_ : List (T0).T) (from_ : Int) (to_ : Int) (f_c00 : List (T0).T) (todo : List Item) (st : St) (o : Option R_u28) : Prop := ∀ r, o = some r → Ev Tryz.prog Tryz.f53 2 todo st (res_u28 r) (bo_u28 m_ from_ to_ f_c00 r)
theorem ev_u28 (k : Nat) (m_ : List (T0).T) (from_ : Int) (to_ : Int) (f_c00 : List (T0).T) : ∀ j, (∀ (y0 : Int) (y1 : Int) (y2 : Int) (y3 : List (T0).T) (y4 : Int) (y5 : Int) (y6 : List (T0).T), E_u28 m_ from_ to_ f_c00 (placeAt Tryz.f53 2) (st_u28_2 m_ from_ to_ f_c00 y0 y1 y2 y3 y4 y5 y6) (f_u28_2 k m_ from_ to_ f_c00 j y0 y1 y2 y3 y4 y5 y6))
  | 0 => fun _ _ _ _ _ _ _ _ h => nomatch h
  | j + 1 => by
    have ih := @ev_u28 k m_ from_ to_ f_c00 j
    · intro y0 y1 y2 y3 y4 y5 y6 r h
      rw [f_u28_2] at h
      exact go (mkK [ke_u32 k, ke_u19 k]) [] cs_u28 [.autoB [] true [1]] (gT h (fun c h => gN2 h fun h => gT h (fun c h => gN h (fun q => conjC (cc_u32 q.1) (conjC (cc_u19 q.2) conj0)) fun h => gC h 2 (ih _ _ _ _ _ _ _ _)) fun c h => gC h 2 (ih _ _ _ _ _ _ _ _)) fun c h => gL h) (by kernel_rfl)
theorem of_u28 (k : Nat) (m_ : List (T0).T) (from_ : Int) (to_ : Int) (f_c00 : List (T0).T) (r : R_u28) (h : f_u28 k m_ from_ to_ f_c00 = some r) : C_u28 m_ from_ to_ f_c00 r := by
  refine CC.of (fn := Tryz.f53) (by kernel_rfl) (by kernel_rfl) (by kernel_rfl) (by kernel_rfl) ?_
  unfold f_u28 at h
  exact go (mkK [ke_u32 k, ke_u19 k]) [] cs_u28 [.autoB [] true [1]] (gC h 2 ((ev_u28 k m_ from_ to_ f_c00 k) _ _ _ _ _ _ _ _)) (by kernel_rfl)
theorem cc_u28 {k : Nat} {m_ : List (T0).T} {from_ : Int} {to_ : Int} {f_c00 : List (T0).T} (h : (f_u28 k m_ from_ to_ f_c00).isSome = true) : C_u28 m_ from_ to_ f_c00 (v_u28 k m_ from_ to_ f_c00) := ccG (Φ := C_u28 m_ from_ to_ f_c00) h (of_u28 k m_ from_ to_ f_c00)
abbrev RA_u26 : Type := Int
def resA_u26 (r : RA_u26) : AV := .tup [.r (.v (Value.slice none 0 0)), .r (.v (.int .i64 r))]
def boA_u26 (b_0 : List (T0).T) (r : RA_u26) : List (Nat × Blk) := [(0, .var 104 [.own 1 0]), (0, .row 90 T0 b_0)]
abbrev RB_u26 : Type := Int
def resB_u26 (r : RB_u26) : AV := .tup [.own 1 0, .r (.v (.int .i64 r))]
def boB_u26 (b_0 : List (T0).T) (r : RB_u26) : List (Nat × Blk) := [(0, .var 104 [.own 1 0]), (0, .row 90 T0 b_0)]
abbrev R_u26 : Type := RA_u26 ⊕ RB_u26
def res_u26 (r : R_u26) : AV := match r with
  | .inl a => resA_u26 a
  | .inr a => resB_u26 a
def bo_u26 (b_0 : List (T0).T) (r : R_u26) : List (Nat × Blk) := match r with
  | .inl a => boA_u26 b_0 a
  | .inr a => boB_u26 b_0 a
def args_u26 (b_0 : List (T0).T) : List AV := [.ptr 0 0 0]
def bin_u26 (b_0 : List (T0).T) : List Blk := [.var 104 [.own 1 0], .row 90 T0 b_0]
abbrev C_u26 (b_0 : List (T0).T) (r : R_u26) : Prop := CC Tryz.prog 55 (args_u26 b_0) (bin_u26 b_0) (res_u26 r) (bo_u26 b_0 r)
abbrev CA_u26 (b_0 : List (T0).T) (r : RA_u26) : Prop := CC Tryz.prog 55 (args_u26 b_0) (bin_u26 b_0) (resA_u26 r) (boA_u26 b_0 r)
abbrev CB_u26 (b_0 : List (T0).T) (r : RB_u26) : Prop := CC Tryz.prog 55 (args_u26 b_0) (bin_u26 b_0) (resB_u26 r) (boB_u26 b_0 r)
def f_u26 (k : Nat) (b_0 : List (T0).T) : Option R_u26 :=
  bif (decide ((↑b_0.length : Int) > (256 : Int))) then
  some ((.inl 8))
  else
  some ((.inr 0))
def v_u26 (k : Nat) (b_0 : List (T0).T) : R_u26 := (f_u26 k b_0).getD (.inl 0)
def vA_u26 (k : Nat) (b_0 : List (T0).T) : RA_u26 := lft 0 (v_u26 k b_0)
def vB_u26 (k : Nat) (b_0 : List (T0).T) : RB_u26 := rgt 0 (v_u26 k b_0)
def ke_u26 (k : Nat) : Ke := (55, fun xs => match xs with
  | [.ptr _ _ _] => some [true]
  | _ => none, fun xs bs => match xs, bs with
  | [.ptr 0 0 0], [.var 104 [.own 1 0], .row 90 tb_0_ qb_0] => (castL tb_0_ T0 qb_0).bind fun b_0 => some (.two (v_u26 k b_0).isLeft (resA_u26 (vA_u26 k b_0), boA_u26 b_0 (vA_u26 k b_0)) (resB_u26 (vB_u26 k b_0), boB_u26 b_0 (vB_u26 k b_0)))
  | _, _ => none)
theorem of_u26 (k : Nat) (b_0 : List (T0).T) (r : R_u26) (h : f_u26 k b_0 = some r) : C_u26 b_0 r := by
  refine CC.of (fn := Tryz.f55) (by kernel_rfl) (by kernel_rfl) (by kernel_rfl) (by kernel_rfl) ?_
  unfold f_u26 at h
  exact go (mkK []) [] [] [.autoB [2, 3] true []] (gT h (fun c h => gL h) fun c h => gL h) (by kernel_rfl)
theorem cc_u26 {k : Nat} {b_0 : List (T0).T} (h : (f_u26 k b_0).isSome = true) : C_u26 b_0 (v_u26 k b_0) := ccG (Φ := C_u26 b_0) h (of_u26 k b_0)
theorem ccA_u26 {k : Nat} {b_0 : List (T0).T} (h : (f_u26 k b_0).isSome = true) (hb : (v_u26 k b_0).isLeft = true) : CA_u26 b_0 (vA_u26 k b_0) := ccAG (Φ := C_u26 b_0) (cc_u26 h) hb
theorem ccB_u26 {k : Nat} {b_0 : List (T0).T} (h : (f_u26 k b_0).isSome = true) (hb : (v_u26 k b_0).isLeft = false) : CB_u26 b_0 (vB_u26 k b_0) := ccBG (Φ := C_u26 b_0) (cc_u26 h) hb
abbrev R_u33 : Type := List (T0).T
def res_u33 (r : R_u33) : AV := .tup []
def bo_u33 (m_ : List (T0).T) (f_f00 : List (T0).T) (r : R_u33) : List (Nat × Blk) := [(0, .var 104 [.own 1 1]), (1, .row 90 T0 r)]
def args_u33 (m_ : List (T0).T) (f_f00 : List (T0).T) : List AV := [.r (.ro T0 m_), .fn (.func 54) [.ptr 0 0 0] []]
def bin_u33 (m_ : List (T0).T) (f_f00 : List (T0).T) : List Blk := [.var 104 [.own 1 0], .row 90 T0 f_f00]
abbrev C_u33 (m_ : List (T0).T) (f_f00 : List (T0).T) (r : R_u33) : Prop := CC Tryz.prog 81 (args_u33 m_ f_f00) (bin_u33 m_ f_f00) (res_u33 r) (bo_u33 m_ f_f00 r)
def st_u33_1 (m_ : List (T0).T) (f_f00 : List (T0).T) (y0 : List (T0).T) (y1 : Int) (y2 : List (T0).T) : St := ⟨mkS 35 [(0, .r (.ro T0 y0)), (1, .fn ((Fn.func 54)) [.ptr 0 0 0] []), (4, .r (.v (.int .i64 y1)))], [(0, 0, .var 104 [.own 1 1]), (1, 1, .row 90 T0 y2)]⟩
def f_u33_1 (k : Nat) (m_ : List (T0).T) (f_f00 : List (T0).T) : Nat → List (T0).T → Int → List (T0).T → Option R_u33
  | 0, _, _, _ => none
  | j + 1, y0, y1, y2 =>
  bif (decide (y1 ≥ (0 : Int))) then
  if (0 ≤ y1) ∧ (y1 < (↑y0.length : Int)) then
  if ((f_u29 k (y0.getD y1.toNat T0.dflt) (IntKind.i64.wrap ((y0.getD y1.toNat T0.dflt).2.1 - 1))).isSome = true) ∧ ((f_u25 k y2 (v_u29 k (y0.getD y1.toNat T0.dflt) (IntKind.i64.wrap ((y0.getD y1.toNat T0.dflt).2.1 - 1)), (y0.getD y1.toNat T0.dflt).2.1, ! (y0.getD y1.toNat T0.dflt).2.2 && decide ((y0.getD y1.toNat T0.dflt).2.1 > 1))).isSome = true) then
  f_u33_1 k m_ f_f00 j y0 ((IntKind.i64.wrap (y1 - 1))) ((v_u25 k y2 (v_u29 k (y0.getD y1.toNat T0.dflt) (IntKind.i64.wrap ((y0.getD y1.toNat T0.dflt).2.1 - 1)), (y0.getD y1.toNat T0.dflt).2.1, ! (y0.getD y1.toNat T0.dflt).2.2 && decide ((y0.getD y1.toNat T0.dflt).2.1 > 1))))
  else none
  else none
  else
  some y2
def f_u33 (k : Nat) (m_ : List (T0).T) (f_f00 : List (T0).T) : Option R_u33 :=
  f_u33_1 k m_ f_f00 k m_ ((IntKind.i64.wrap ((↑m_.length : Int) - 1))) f_f00
def v_u33 (k : Nat) (m_ : List (T0).T) (f_f00 : List (T0).T) : R_u33 := (f_u33 k m_ f_f00).getD []
def ke_u33 (k : Nat) : Ke := (81, fun xs => match xs with
  | [_, .fn (.func 54) _ _] => some [false, true]
  | _ => none, fun xs bs => match xs, bs with
  | [.r (.ro tm__ qm_), .fn (.func 54) [.ptr 0 0 0] []], [.var 104 [.own 1 0], .row 90 tf_f00_ qf_f00] => (castL tm__ T0 qm_).bind fun m_ => (castL tf_f00_ T0 qf_f00).bind fun f_f00 => some (.one (res_u33 (v_u33 k m_ f_f00), bo_u33 m_ f_f00 (v_u33 k m_ f_f00)))
  | _, _ => none)
def cs_u33 : List (Nat × List Cmd) := [(1, [.autoB [0, 1, 4] false [1]])]
abbrev E_u33 (m_ : List (T0).T) (f_f00 : List (T0).T) (todo : List Item) (st : St) (o : Option R_u33) : Prop := ∀ r, o = some r → Ev Tryz.prog Tryz.f81 2 todo st (res_u33 r) (bo_u33 m_ f_f00 r)
theorem ev_u33 (k : Nat) (m_ : List (T0).T) (f_f00 : List (T0).T) : ∀ j, (∀ (y0 : List (T0).T) (y1 : Int) (y2 : List (T0).T), E_u33 m_ f_f00 (placeAt Tryz.f81 1) (st_u33_1 m_ f_f00 y0 y1 y2) (f_u33_1 k m_ f_f00 j y0 y1 y2))
  | 0 => fun _ _ _ _ h => nomatch h
  | j + 1 => by
    have ih := @ev_u33 k m_ f_f00 j
    · intro y0 y1 y2 r h
      rw [f_u33_1] at h
      exact go (mkK [ke_u29 k, ke_u25 k]) [] cs_u33 [.autoB [] true [1]] (gT h (fun c h => gN2 h fun h => gN h (fun q => conjC (cc_u29 q.1) (conjC (cc_u25 q.2) conj0)) fun h => gC h 1 (ih _ _ _ _)) fun c h => gL h) (by kernel_rfl)
theorem of_u33 (k : Nat) (m_ : List (T0).T) (f_f00 : List (T0).T) (r : R_u33) (h : f_u33 k m_ f_f00 = some r) : C_u33 m_ f_f00 r := by
  refine CC.of (fn := Tryz.f81) (by kernel_rfl) (by kernel_rfl) (by kernel_rfl) (by kernel_rfl) ?_
  unfold f_u33 at h
  exact go (mkK [ke_u29 k, ke_u25 k]) [] cs_u33 [.autoB [] true [1]] (gC h 1 ((ev_u33 k m_ f_f00 k) _ _ _ _)) (by kernel_rfl)
theorem cc_u33 {k : Nat} {m_ : List (T0).T} {f_f00 : List (T0).T} (h : (f_u33 k m_ f_f00).isSome = true) : C_u33 m_ f_f00 (v_u33 k m_ f_f00) := ccG (Φ := C_u33 m_ f_f00) h (of_u33 k m_ f_f00)
abbrev R_u18 : Type := List (T0).T × Int
def res_u18 (r : R_u18) : AV := .tup [.r (.ro T0 r.1), .r (.v (.int .i64 r.2))]
def bo_u18 (inner_ : List (T0).T) (outer_ : List (T0).T) (r : R_u18) : List (Nat × Blk) := []
def args_u18 (inner_ : List (T0).T) (outer_ : List (T0).T) : List AV := [.r (.ro T0 inner_), .r (.ro T0 outer_)]
def bin_u18 (inner_ : List (T0).T) (outer_ : List (T0).T) : List Blk := []
abbrev C_u18 (inner_ : List (T0).T) (outer_ : List (T0).T) (r : R_u18) : Prop := CC Tryz.prog 64 (args_u18 inner_ outer_) (bin_u18 inner_ outer_) (res_u18 r) (bo_u18 inner_ outer_ r)
def st_u18_9 (y0 : List (T0).T) (y1 : List (T0).T) (y2 : Int) (y3 : List (T0).T) (y4 : Int) (y5 : Int) : St := ⟨mkS 82 [(0, .r (.ro T0 y0)), (1, .r (.ro T0 y1)), (8, .r (.v (.int .i64 y2))), (27, .r (.ro T0 y3)), (28, .r (.v (.int .i64 y4))), (29, .r (.v (.int .i64 y5)))], []⟩
def st_u18_16 (y0 : List (T0).T) (y1 : List (T0).T) (y2 : Int) (y3 : Int) (y4 : List (T0).T) : St := ⟨mkS 82 [(1, .r (.ro T0 y0)), (11, .ptr 1000000 0 0), (44, .r (.ro T0 y1)), (45, .r (.v (.int .i64 y2))), (46, .r (.v (.int .i64 y3)))], [(1000000, 0, .var 104 [.own 1000001 0]), (1000001, 0, .row 90 T0 y4)]⟩
mutual
def f_u18_9 (k : Nat) : Nat → List (T0).T → List (T0).T → Int → List (T0).T → Int → Int → Option R_u18
  | 0, _, _, _, _, _, _ => none
  | j + 1, y0, y1, y2, y3, y4, y5 =>
  bif (decide (y5 < y4)) then
  if (0 ≤ y5) ∧ (y5 < (↑y3.length : Int)) then
  if ((f_u29 k (y3.getD y5.toNat T0.dflt) (IntKind.i64.wrap ((y3.getD y5.toNat T0.dflt).2.1 - 1))).isSome = true) then
  bif (decide ((if v_u29 k (y3.getD y5.toNat T0.dflt) (IntKind.i64.wrap ((y3.getD y5.toNat T0.dflt).2.1 - (1 : Int))) > (y3.getD y5.toNat T0.dflt).1 then v_u29 k (y3.getD y5.toNat T0.dflt) (IntKind.i64.wrap ((y3.getD y5.toNat T0.dflt).2.1 - (1 : Int))) else (y3.getD y5.toNat T0.dflt).1) ≥ y2)) then
  some (([], 21))
  else
  f_u18_9 k j y0 y1 y2 y3 y4 ((IntKind.i64.wrap (y5 + 1)))
  else none
  else none
  else
  f_u18_16 k j y1 y0 ((↑y0.length : Int)) 0 ([])
def f_u18_16 (k : Nat) : Nat → List (T0).T → List (T0).T → Int → Int → List (T0).T → Option R_u18
  | 0, _, _, _, _, _ => none
  | j + 1, y0, y1, y2, y3, y4 =>
  bif (decide (y3 < y2)) then
  if (0 ≤ y3) ∧ (y3 < (↑y1.length : Int)) then
  bif (! (y1.getD y3.toNat T0.dflt).2.2) then
  if ((f_u27 k y0 (y1.getD y3.toNat T0.dflt).1 (IntKind.i64.wrap ((y1.getD y3.toNat T0.dflt).1 + (y1.getD y3.toNat T0.dflt).2.1)) y4).isSome = true) then
  f_u18_16 k j y0 y1 y2 ((IntKind.i64.wrap (y3 + 1))) ((v_u27 k y0 (y1.getD y3.toNat T0.dflt).1 (IntKind.i64.wrap ((y1.getD y3.toNat T0.dflt).1 + (y1.getD y3.toNat T0.dflt).2.1)) y4))
  else none
  else
  if ((f_u28 k y0 (IntKind.i64.wrap (IntKind.i64.wrap ((y1.getD y3.toNat T0.dflt).1 - (y1.getD y3.toNat T0.dflt).2.1) + 1)) (IntKind.i64.wrap ((y1.getD y3.toNat T0.dflt).1 + 1)) []).isSome = true) then
  if ((f_u33 k (v_u28 k y0 (IntKind.i64.wrap (IntKind.i64.wrap ((y1.getD y3.toNat T0.dflt).1 - (y1.getD y3.toNat T0.dflt).2.1) + 1)) (IntKind.i64.wrap ((y1.getD y3.toNat T0.dflt).1 + 1)) []) y4).isSome = true) then
  f_u18_16 k j y0 y1 y2 ((IntKind.i64.wrap (y3 + 1))) ((v_u33 k (v_u28 k y0 (IntKind.i64.wrap (IntKind.i64.wrap ((y1.getD y3.toNat T0.dflt).1 - (y1.getD y3.toNat T0.dflt).2.1) + 1)) (IntKind.i64.wrap ((y1.getD y3.toNat T0.dflt).1 + 1)) []) y4))
  else none
  else none
  else none
  else
  bif (Sum.isLeft (v_u26 k y4)) then
  if ((f_u26 k y4).isSome = true) then
  some (([], vA_u26 k y4))
  else none
  else
  if ((f_u26 k y4).isSome = true) then
  some ((y4, vB_u26 k y4))
  else none
end
def f_u18 (k : Nat) (inner_ : List (T0).T) (outer_ : List (T0).T) : Option R_u18 :=
  if ((f_u17 k inner_).isSome = true) then
  bif (v_u17 k inner_ != (0 : Int)) then
  some (([], v_u17 k inner_))
  else
  if ((f_u17 k outer_).isSome = true) then
  bif (v_u17 k outer_ != (0 : Int)) then
  some (([], v_u17 k outer_))
  else
  if ((f_u31 k outer_).isSome = true) then
  f_u18_9 k k inner_ outer_ ((v_u31 k outer_)) inner_ ((↑inner_.length : Int)) 0
  else none
  else none
  else none
def v_u18 (k : Nat) (inner_ : List (T0).T) (outer_ : List (T0).T) : R_u18 := (f_u18 k inner_ outer_).getD ([], 0)
def ke_u18 (k : Nat) : Ke := (64, fun xs => match xs with
  | [_, _] => some [false, false]
  | _ => none, fun xs bs => match xs, bs with
  | [.r (.ro tinner__ qinner_), .r (.ro touter__ qouter_)], [] => (castL tinner__ T0 qinner_).bind fun inner_ => (castL touter__ T0 qouter_).bind fun outer_ => some (.one (res_u18 (v_u18 k inner_ outer_), bo_u18 inner_ outer_ (v_u18 k inner_ outer_)))
  | _, _ => none)
def K_u18 (k : Nat) : Calld := mkK [ke_u17 k, ke_u31 k, ke_u29 k, ke_u25 k, ke_u27 k, ke_u19 k, ke_u28 k, ke_u26 k, ke_u33 k]
def cs_u18 : List (Nat × List Cmd) := [(9, [.autoB [0, 1, 8, 27, 28, 29] false []]), (16, [.autoB [1, 11, 44, 45, 46] false []])]
abbrev E_u18 (inner_ : List (T0).T) (outer_ : List (T0).T) (todo : List Item) (st : St) (o : Option R_u18) : Prop := ∀ r, o = some r → Ev Tryz.prog Tryz.f64 0 todo st (res_u18 r) (bo_u18 inner_ outer_ r)
theorem ev_u18 (k : Nat) (inner_ : List (T0).T) (outer_ : List (T0).T) : ∀ j, (∀ (y0 : List (T0).T) (y1 : List (T0).T) (y2 : Int) (y3 : List (T0).T) (y4 : Int) (y5 : Int), E_u18 inner_ outer_ (placeAt Tryz.f64 9) (st_u18_9 y0 y1 y2 y3 y4 y5) (f_u18_9 k j y0 y1 y2 y3 y4 y5)) ∧ (∀ (y0 : List (T0).T) (y1 : List (T0).T) (y2 : Int) (y3 : Int) (y4 : List (T0).T), E_u18 inner_ outer_ (placeAt Tryz.f64 16) (st_u18_16 y0 y1 y2 y3 y4) (f_u18_16 k j y0 y1 y2 y3 y4))
  | 0 => ⟨fun _ _ _ _ _ _ _ h => (nomatch h), fun _ _ _ _ _ _ h => (nomatch h)⟩
  | j + 1 => by
    have ih := @ev_u18 k inner_ outer_ j
    refine ⟨?_, ?_⟩
    · intro y0 y1 y2 y3 y4 y5 r h
      rw [f_u18_9] at h
      exact go (K_u18 k) [] cs_u18 [.frz 4 false (RTy.list T0), .autoB [4, 5] true []] (gT h (fun c h => gN2 h fun h => gN1 h (fun q => cc_u29 q) fun h => gT h (fun c h => gL h) fun c h => gC h 9 (ih.1 _ _ _ _ _ _ _)) fun c h => gC h 16 (ih.2 _ _ _ _ _ _)) (by kernel_rfl)
    · intro y0 y1 y2 y3 y4 r h
      rw [f_u18_16] at h
      exact go (K_u18 k) [] cs_u18 [.frz 4 false (RTy.list T0), .autoB [4, 5] true []] (gT h (fun c h => gN2 h fun h => gT h (fun c h => gN1 h (fun q => cc_u27 q) fun h => gC h 16 (ih.2 _ _ _ _ _ _)) fun c h => gN1 h (fun q => cc_u28 q) fun h => gN1 h (fun q => cc_u33 q) fun h => gC h 16 (ih.2 _ _ _ _ _ _)) fun c h => gT h (fun c h => gN1 h (fun q => ccA_u26 q (by assumption)) fun h => gL h) fun c h => gN1 h (fun q => ccB_u26 q (by assumption)) fun h => gL h) (by kernel_rfl)
theorem of_u18 (k : Nat) (inner_ : List (T0).T) (outer_ : List (T0).T) (r : R_u18) (h : f_u18 k inner_ outer_ = some r) : C_u18 inner_ outer_ r := by
  refine CC.of (fn := Tryz.f64) (by kernel_rfl) (by kernel_rfl) (by kernel_rfl) (by kernel_rfl) ?_
  unfold f_u18 at h
  exact go (K_u18 k) [] cs_u18 [.frz 4 false (RTy.list T0), .autoB [4, 5] true []] (gN1 h (fun q => cc_u17 q) fun h => gT h (fun c h => gL h) fun c h => gN1 h (fun q => cc_u17 q) fun h => gT h (fun c h => gL h) fun c h => gN1 h (fun q => cc_u31 q) fun h => gC h 9 ((ev_u18 k inner_ outer_ k).1 _ _ _ _ _ _ _)) (by kernel_rfl)
theorem cc_u18 {k : Nat} {inner_ : List (T0).T} {outer_ : List (T0).T} (h : (f_u18 k inner_ outer_).isSome = true) : C_u18 inner_ outer_ (v_u18 k inner_ outer_) := ccG (Φ := C_u18 inner_ outer_) h (of_u18 k inner_ outer_)
abbrev R_u30 : Type := T10.T
def res_u30 (r : R_u30) : AV := .agg (rvs (enc T10 r))
def bo_u30 (r_ : T0.T) (r : R_u30) : List (Nat × Blk) := []
def args_u30 (r_ : T0.T) : List AV := [.agg (rvs (enc T0 r_))]
def bin_u30 (r_ : T0.T) : List Blk := []
abbrev C_u30 (r_ : T0.T) (r : R_u30) : Prop := CC Tryz.prog 45 (args_u30 r_) (bin_u30 r_) (res_u30 r) (bo_u30 r_ r)
def f_u30 (k : Nat) (r_ : T0.T) : Option R_u30 :=
  if ((f_u29 k r_ (IntKind.i64.wrap (r_.2.1 - 1))).isSome = true) then
  some ((if v_u29 k r_ (IntKind.i64.wrap (r_.2.1 - 1)) < r_.1 then v_u29 k r_ (IntKind.i64.wrap (r_.2.1 - 1)) else r_.1, IntKind.i64.wrap ((if v_u29 k r_ (IntKind.i64.wrap (r_.2.1 - 1)) > r_.1 then v_u29 k r_ (IntKind.i64.wrap (r_.2.1 - 1)) else r_.1) + 1)))
  else none
def v_u30 (k : Nat) (r_ : T0.T) : R_u30 := (f_u30 k r_).getD (T10).dflt
def ke_u30 (k : Nat) : Ke := (45, fun xs => match xs with
  | [_] => some [false]
  | _ => none, fun xs bs => match xs, bs with
  | [.agg qr_], [] => (decS [] T0 qr_).bind fun r_ => some (.one (res_u30 (v_u30 k r_), bo_u30 r_ (v_u30 k r_)))
  | _, _ => none)
theorem of_u30 (k : Nat) (r_ : T0.T) (r : R_u30) (h : f_u30 k r_ = some r) : C_u30 r_ r := by
  refine CC.of (fn := Tryz.f45) (by kernel_rfl) (by kernel_rfl) (by kernel_rfl) (by kernel_rfl) ?_
  unfold f_u30 at h
  exact go (mkK [ke_u29 k]) [] [] [.autoB [2] true []] (gN1 h (fun q => cc_u29 q) fun h => gL h) (by kernel_rfl)
theorem cc_u30 {k : Nat} {r_ : T0.T} (h : (f_u30 k r_).isSome = true) : C_u30 r_ (v_u30 k r_) := ccG (Φ := C_u30 r_) h (of_u30 k r_)
abbrev R_u91 : Type := Bool
def res_u91 (r : R_u91) : AV := .r (.v (.bool r))
def bo_u91 (a_ : Bool) (b_ : Bool) (r : R_u91) : List (Nat × Blk) := []
def args_u91 (a_ : Bool) (b_ : Bool) : List AV := [.r (.v (.bool a_)), .r (.v (.bool b_))]
def bin_u91 (a_ : Bool) (b_ : Bool) : List Blk := []
abbrev C_u91 (a_ : Bool) (b_ : Bool) (r : R_u91) : Prop := CC Tryz.prog 67 (args_u91 a_ b_) (bin_u91 a_ b_) (res_u91 r) (bo_u91 a_ b_ r)
def f_u91 (k : Nat) (a_ : Bool) (b_ : Bool) : Option R_u91 :=
  some a_
def v_u91 (k : Nat) (a_ : Bool) (b_ : Bool) : R_u91 := (f_u91 k a_ b_).getD false
def ke_u91 (k : Nat) : Ke := (67, fun xs => match xs with
  | [_, _] => some [false, false]
  | _ => none, fun xs bs => match xs, bs with
  | [.r (.v (.bool a_)), .r (.v (.bool b_))], [] => some (.one (res_u91 (v_u91 k a_ b_), bo_u91 a_ b_ (v_u91 k a_ b_)))
  | _, _ => none)
theorem of_u91 (k : Nat) (a_ : Bool) (b_ : Bool) (r : R_u91) (h : f_u91 k a_ b_ = some r) : C_u91 a_ b_ r := by
  refine CC.of (fn := Tryz.f67) (by kernel_rfl) (by kernel_rfl) (by kernel_rfl) (by kernel_rfl) ?_
  unfold f_u91 at h
  exact go (mkK []) [] [] [.autoB [4] true []] (gL h) (by kernel_rfl)
theorem cc_u91 {k : Nat} {a_ : Bool} {b_ : Bool} (h : (f_u91 k a_ b_).isSome = true) : C_u91 a_ b_ (v_u91 k a_ b_) := ccG (Φ := C_u91 a_ b_) h (of_u91 k a_ b_)
abbrev R_u89 : Type := Int
def res_u89 (r : R_u89) : AV := .r (.v (.int .i64 r))
def bo_u89 (l_ : List (T10).T) (r : R_u89) : List (Nat × Blk) := []
def args_u89 (l_ : List (T10).T) : List AV := [.r (.ro T10 l_)]
def bin_u89 (l_ : List (T10).T) : List Blk := []
abbrev C_u89 (l_ : List (T10).T) (r : R_u89) : Prop := CC Tryz.prog 60 (args_u89 l_) (bin_u89 l_) (res_u89 r) (bo_u89 l_ r)
def st_u89_4 (y0 : List (T10).T) (y1 : Int) (y2 : Int) : St := ⟨mkS 30 [(8, .r (.ro T10 y0)), (9, .r (.v (.int .i64 y1))), (10, .r (.v (.int .i64 y2)))], []⟩
def f_u89_4 (k : Nat) : Nat → List (T10).T → Int → Int → Option R_u89
  | 0, _, _, _ => none
  | j + 1, y0, y1, y2 =>
  bif (decide (y2 < y1)) then
  if (0 ≤ y2) ∧ (y2 < (↑y0.length : Int)) then
  bif (decide ((y0.getD y2.toNat T10.dflt).1 < (0 : Int)) || decide ((y0.getD y2.toNat T10.dflt).1 > (y0.getD y2.toNat T10.dflt).2) || decide ((y0.getD y2.toNat T10.dflt).2 > (17179869184 : Int))) then
  some 1
  else
  f_u89_4 k j y0 y1 ((IntKind.i64.wrap (y2 + 1)))
  else none
  else
  some 0
def f_u89 (k : Nat) (l_ : List (T10).T) : Option R_u89 :=
  bif (decide ((↑l_.length : Int) > (256 : Int))) then
  some 8
  else
  f_u89_4 k k l_ ((↑l_.length : Int)) 0
def v_u89 (k : Nat) (l_ : List (T10).T) : R_u89 := (f_u89 k l_).getD 0
def ke_u89 (k : Nat) : Ke := (60, fun xs => match xs with
  | [_] => some [false]
  | _ => none, fun xs bs => match xs, bs with
  | [.r (.ro tl__ ql_)], [] => (castL tl__ T10 ql_).bind fun l_ => some (.one (res_u89 (v_u89 k l_), bo_u89 l_ (v_u89 k l_)))
  | _, _ => none)
def cs_u89 : List (Nat × List Cmd) := [(4, [.autoB [8, 9, 10] false []])]
abbrev E_u89 (l_ : List (T10).T) (todo : List Item) (st : St) (o : Option R_u89) : Prop := ∀ r, o = some r → Ev Tryz.prog Tryz.f60 0 todo st (res_u89 r) (bo_u89 l_ r)
theorem ev_u89 (k : Nat) (l_ : List (T10).T) : ∀ j, (∀ (y0 : List (T10).T) (y1 : Int) (y2 : Int), E_u89 l_ (placeAt Tryz.f60 4) (st_u89_4 y0 y1 y2) (f_u89_4 k j y0 y1 y2))
  | 0 => fun _ _ _ _ h => nomatch h
  | j + 1 => by
    have ih := @ev_u89 k l_ j
    · intro y0 y1 y2 r h
      rw [f_u89_4] at h
      exact go (mkK []) [] cs_u89 [.autoB [2] true []] (gT h (fun c h => gN2 h fun h => gT h (fun c h => gL h) fun c h => gC h 4 (ih _ _ _ _)) fun c h => gL h) (by kernel_rfl)
theorem of_u89 (k : Nat) (l_ : List (T10).T) (r : R_u89) (h : f_u89 k l_ = some r) : C_u89 l_ r := by
  refine CC.of (fn := Tryz.f60) (by kernel_rfl) (by kernel_rfl) (by kernel_rfl) (by kernel_rfl) ?_
  unfold f_u89 at h
  exact go (mkK []) [] cs_u89 [.autoB [2] true []] (gT h (fun c h => gL h) fun c h => gC h 4 ((ev_u89 k l_ k) _ _ _ _)) (by kernel_rfl)
theorem cc_u89 {k : Nat} {l_ : List (T10).T} (h : (f_u89 k l_).isSome = true) : C_u89 l_ (v_u89 k l_) := ccG (Φ := C_u89 l_) h (of_u89 k l_)

end
end Go.AM
namespace Go.AM
open Go

end Go.AM
namespace Go.AM
open Go Go.Proofs Go.Shelf Go.RowKit Go.Lib
variable {P : Program} {ρ : Ren}

/-- the memory has grown, and what lay there lies as it lay -/
structure Ext (w w' : World) : Prop where
  grew : Grew w w'
  frame : ∀ B, B < w.heap.size → w'.heap[B]? = w.heap[B]?
theorem Ext.refl (w : World) : Ext w w := ⟨.refl w, fun _ _ => rfl⟩
theorem Ext.trans {a b c : World} (h : Ext a b) (k : Ext b c) : Ext a c := ⟨h.grew.trans k.grew, fun B hB => (k.frame B (Nat.lt_of_lt_of_le hB h.grew.size)).trans (h.frame B hB)⟩
end Go.AM
namespace Go.AM
open Go Go.Proofs Go.Shelf Go.RowKit

section
variable {P : Program}
/-- nothing came in by reference; one block comes out -/
theorem mem_one {cx : Cx} {env : Env} {b : Blk} {h : Value} {w' : World} (hn : ∀ n, env n = none) (hh : ∀ n, ¬ cx.hid n) (hent : ∀ nm h, cx.ent nm = some h ↔ env nm = some (0, h))
    (hg : Grew cx.w0 w') (hfr : ∀ B, B < cx.w0.heap.size → w'.heap[B]? = cx.w0.heap[B]?) (hb : ∀ B, hblk h = some B → cx.w0.heap.size ≤ B ∧ B < w'.heap.size)
    (hr : RepB w' (okOf cx (env.put 0 0 h) w') (env.put 0 0 h) h b) : Mem cx (numB 0 [(0, b)]) w' (env.put 0 0 h) := by
  have nent : ∀ nm h0, cx.ent nm = some h0 → False := fun nm h0 e => by
    have := (hent nm h0).1 e
    rw [hn] at this; cases this
  have hput : ∀ nm v x, env.put 0 0 h nm = some (v, x) → nm = 0 ∧ v = 0 ∧ x = h := fun nm v x e => by
    unfold Env.put at e
    split at e
    · rename_i hn
      simp at e
      exact ⟨hn, e.1.symm, e.2.symm⟩
    · rw [hn] at e; cases e
  refine ⟨fun nm ver b' e => ?_, fun nm e _ => ?_, fun nm h => absurd h (hh nm), fun nm nm' v v' h h' B e e' _ _ => ?_, fun nm v h' B e hq => ?_, hg, fun B hB _ => hfr B hB, fun nm h h0 _ e0 => (nent nm h0 e0).elim, fun nm h0 e0 => (nent nm h0 e0).elim⟩
  · have hn : nm = 0 ∧ ver = 0 ∧ b' = b := by
      simp only [numB, getB] at e
      cases hq : Nat.beq 0 nm <;> simp only [hq, cond_true, cond_false] at e
      · cases e
      · have := Nat.eq_of_beq_eq_true hq
        simp at e
        exact ⟨this.symm, e.1.symm, e.2.symm⟩
    obtain ⟨rfl, rfl, rfl⟩ := hn
    exact ⟨h, by simp [Env.put], hr⟩
  · unfold Env.put
    split
    · rename_i hn
      subst hn
      simp [numB, getB] at e
    · exact hn nm
  · rw [(hput _ _ _ e).1, (hput _ _ _ e').1]
  · obtain ⟨rfl, rfl, rfl⟩ := hput _ _ _ e
    exact ⟨.inl (hb B hq).1, (hb B hq).2⟩

/-- a row of one's own, as the kit tells it -/
theorem repB_of_owns {w : World} {ok : Nat → Prop} {env : Env} {base : Nat} {e : TypeId} {τ : RTy} {l : List τ.T} {v : Value} {us : List Value} (hpos : 0 < τ.sz) (h : w.ownsRow base e τ.sz v l.length us) (hu : All2 (RepR w ok) us (encL τ l)) : RepB w ok env v (.row e τ l) ∧ ∀ B, hblk v = some B → base ≤ B ∧ B < w.heap.size := by
  obtain ⟨hl, ⟨rfl, h0⟩ | ⟨g, cap, cur, rfl, hg, hh, hcap, hmx, hs, ht⟩⟩ := h
  · have : l = [] := List.length_eq_zero_iff.1 h0
    subst this
    exact ⟨.rowNil _ _ _, fun B hB => by simp [hblk] at hB⟩
  · by_cases hc : cap = 0
    · have hl0 : l.length = 0 := by omega
      have : l = [] := List.length_eq_zero_iff.1 hl0
      subst this; subst hc
      exact ⟨.rowNil _ _ _, fun B hB => by simp [hblk] at hB⟩
    · refine ⟨.row g e τ l cap cur hh hcap (by omega) hmx hs fun k hk => ?_, fun B hB => ?_⟩
      · have := hu.get Go.undef .undef k (by rw [encL_length]; exact hk)
        rw [← ht] at this
        simpa [List.getElem?_take, hk] using this
      · rw [hblk_sl (by omega)] at hB
        simp at hB; subst hB
        exact ⟨hg, (Array.getElem?_eq_some_iff.1 hh).1⟩

open Go.RowKit Go.Lib in
set_option maxHeartbeats 2000000 in
set_option maxRecDepth 100000 in
/-- Clone of a slice of no elements, wherever it stands -/
theorem clone_empty {ρ : Ren} (L : SlLaysE0.n41 P ρ) (i0 : TypeInfo) (z : Value) (size bytes : Nat) (hi : P.info? (ρ.t 23) = some i0) (hz0 : i0.zero = some z) (hz1 : i0.size = size) (hz2 : i0.bytes = bytes) (hzs : z.cells.size = size) (hsz : 0 < size)
    (z23 : ∀ w, (Go.sizeOf (ρ.t 23)).run P w = .ok size w) (ad : Addr) (c : Nat) (w : World) :
    Calls P (ρ.f 41) #[.slice (some ad) 0 c] w fun e w' => ∃ v', e = .returned v' ∧ w'.ownsRow w.heap.size (ρ.t 23) size v' 0 [] ∧ Below w.heap.size w w' := by
  have mixed := L.mixed; have t4 := L.t4; have a4 := L.a4; have z4 := L.z4; have v4 := L.v4; have t22 := L.t22; have a22 := L.a22; have z22 := L.z22; have v22 := L.v22
  have q22 : ∀ (w : World) (a : Option Addr) (n c n' c' : Nat), (binOp .eql (ρ.t 22) (.slice a n c) (.slice none n' c')).run P w = .ok (.bool a.isNone) w := fun w a n c n' c' => Lib.run_eql_slice_nil w _ _ a n c n' c' L.t22
  have u22 : ∀ w, Sem.run P (underlying (ρ.t 22)) w = .ok (TypeDesc.slice (ρ.t 23)) w := run_underlying t22
  obtain ⟨_, _, FG⟩ := L.f41
  go_enter FG, SlBodyN.n41_ntmps ρ
  go_wp2_with (at_builtin; refine wpList_append_own _ rfl _ _ (ρ.t 22) rfl w.heap.size (ρ.t 23) i0 z size bytes t22 hi hz0 hz1 hz2 hzs hsz _ _ _ rfl (World.ownsRow_made w #[] 0 (Nat.le_refl _) (Nat.zero_le _) (by simp)) ad 0 c [] rfl ?qc1 ?qc2 ?qc3 ?qc4 ?qc5 ?qc6 ?_)
  case qc1 => simp
  case qc2 => intro j u hj; simp at hj
  case qc3 => intro u hu; simp at hu
  case qc4 => simp [maxLen]
  case qc5 => simp
  case qc6 => simp
  intro v' w1 hown hgrow hnil
  go_wp2
  go_ret
  refine ⟨v', rfl, by simpa using hown, ?_⟩
  exact ((Below.refl _ w).alloc (Nat.le_refl _) _).grown hgrow (by simp) (by intro k hk; simp [Value.ownBlock] at hk; omega)

theorem cc_clone [GT P] {ρ : Ren} (L : SlLaysE0.n41 P ρ) {τ : RTy} {i0 : TypeInfo} {z : Value} (hi : P.info? (ρ.t 23) = some i0) (hz0 : i0.zero = some z) (hz1 : i0.size = τ.sz) (hzs : z.cells.size = τ.sz) (hpos : 0 < τ.sz) (hby : 0 < i0.bytes) (z23 : ∀ w, (Go.sizeOf (ρ.t 23)).run P w = .ok τ.sz w)
    (hf : ∃ fn c, P.funcs[ρ.f 41]? = some fn ∧ fn.body = some c ∧ (fn.name == "runtime.NumGoroutine") = false) (l : List τ.T) (hbig : l.length * i0.bytes ≤ 140737488355328) : CC P (ρ.f 41) [.r (.ro τ l)] [] (.own 0 0) [(0, .row (ρ.t 23) τ l)] := by
  refine ⟨hf, fun cx env vs hwf hG hh hent hm hs hargs => ?_⟩
  have none : ∀ n, env n = none := fun n => hm.dom n rfl (hh n)
  have hvs : vs = #[vs.getD 0 Go.undef] := by
    refine Array.ext (by rw [hs]; rfl) fun i hi1 hi2 => ?_
    have : i = 0 := by simpa using hi2
    subst this
    simp [hi1]
  have hr := hargs 0 (by simp)
  simp only [List.getD_cons_zero] at hr
  rw [hvs]
  generalize vs.getD 0 Go.undef = u at hr
  have hlen : l.length ≤ maxLen := by
    have : l.length ≤ l.length * i0.bytes := Nat.le_mul_of_pos_right _ hby
    unfold maxLen; omega
  have fin : ∀ {v' : Value} {w' : World} {us : List Value}, w'.ownsRow cx.w0.heap.size (ρ.t 23) τ.sz v' l.length us → Below cx.w0.heap.size cx.w0 w' → All2 (RepR cx.w0 (okOf cx env cx.w0)) us (encL τ l) →
      ∃ v env', (Ending.returned v' : Ending) = .returned v ∧ Mem cx (numB 0 [(0, .row (ρ.t 23) τ l)]) w' env' ∧ Rep w' (okOf cx env' w') env' v (.own 0 0) := fun {v' w' us} ho hB hu => by
    have ok' : ∀ B, okOf cx env cx.w0 B → okOf cx (env.put 0 0 v') w' B := fun B ⟨h1, h2, h3⟩ => by
      refine ⟨h1, Nat.lt_of_lt_of_le h2 hB.size, fun nm ver h e q => ?_⟩
      unfold Env.put at e
      split at e
      · simp at e
        obtain ⟨rfl, rfl⟩ := e
        obtain ⟨_, ⟨rfl, _⟩ | ⟨g, cap, cur, rfl, hg, _⟩⟩ := ho
        · simp [hblk] at q
        · cases cap with
          | zero => simp [hblk] at q
          | succ c => simp [hblk] at q; omega
      · rw [none] at e; cases e
    have hu' : All2 (RepR w' (okOf cx (env.put 0 0 v') w')) us (encL τ l) := hu.mono fun _ _ h => h.mono ok' fun B o hB' => cell_of_heap (hB.block B hB'.2.1) o
    obtain ⟨h1, h2⟩ := repB_of_owns (env := env.put 0 0 v') hpos ho hu'
    exact ⟨v', env.put 0 0 v', rfl, mem_one none hh hent ⟨hB.size, hB.os, hB.output⟩ (fun B hB' => hB.block B hB') h2 h1, .own ⟨0, _, by simp [Env.put], Nat.le_refl _, fun _ => rfl⟩⟩
  have nilC : ∀ cap, l = [] → Calls P (ρ.f 41) #[.slice Option.none 0 cap] cx.w0 fun e w' => ∃ v env', e = .returned v ∧ Mem cx (numB 0 [(0, .row (ρ.t 23) τ l)]) w' env' ∧ Rep w' (okOf cx env' w') env' v (.own 0 0) := fun cap h0 => by
    refine (AnyE.slices_Clone_nil L 0 cap cx.w0).mono fun e w' ⟨he, hw⟩ => ?_
    subst hw; subst h0; subst he
    exact fin (us := []) ⟨by simp, .inl ⟨rfl, rfl⟩⟩ (Below.refl _ _) .nil
  have some_ : ∀ (B o cap : Nat) (us : List Value), us.length = l.length * τ.sz → (∀ k, k < l.length * τ.sz → cx.w0.cell? ⟨B, o + k, Option.none⟩ = some (us.getD k Go.undef)) → All2 (RepR cx.w0 (okOf cx env cx.w0)) us (encL τ l) →
      Calls P (ρ.f 41) #[.slice (some ⟨B, o, Option.none⟩) l.length cap] cx.w0 fun e w' => ∃ v env', e = .returned v ∧ Mem cx (numB 0 [(0, .row (ρ.t 23) τ l)]) w' env' ∧ Rep w' (okOf cx env' w') env' v (.own 0 0) := fun B o cap us h1 h2 h3 => by
    refine (AnyE.slices_Clone L i0 z τ.sz i0.bytes hi hz0 hz1 rfl hzs hpos z23 B o l.length cap us cx.w0 h1 hlen hbig (fun j u hu => ?_) (encL_oneCell τ l us h3)).mono fun e w' ⟨v', he, ho, _, hB⟩ => ?_
    · obtain ⟨hj, hv⟩ := List.getElem?_eq_some_iff.1 hu
      rw [h2 j (by omega)]
      simp [hj, hv]
    · subst he
      exact fin ho hB h3
  cases hr with
  | r h =>
    cases h with
    | nil _ a cap =>
      cases a with
      | none => exact nilC cap rfl
      | some a =>
        obtain ⟨B, o, q⟩ := a
        cases q with
        | none => exact some_ B o cap [] (by simp) (fun k hk => by simp at hk) .nil
        | some q =>
          refine (clone_empty L i0 z τ.sz i0.bytes hi hz0 hz1 rfl hzs hpos z23 ⟨B, o, some q⟩ cap cx.w0).mono fun e w' ⟨v', he, ho, hB⟩ => ?_
          subst he
          exact fin ho hB .nil
    | ro _ _ B o cap g hB hcap hc hr =>
      obtain ⟨us, h1, h2, h3⟩ := repR_cells (RepR.ro τ l B o cap g hB hcap hc hr)
      exact some_ B o cap us h1 h2 h3
end
end Go.AM
namespace Go.AM
open Go Go.Proofs Go.Shelf Go.RowKit Go.Sort

def valsL (τ : RTy) : List τ.T → List Value
  | [] => []
  | x :: l => vals τ x ++ valsL τ l
theorem encL_flat {τ : RTy} (hf : τ.flat = true) : ∀ l : List τ.T, encL τ l = (valsL τ l).map .v
  | [] => rfl
  | x :: l => by simp [encL, valsL, rvs_enc_flat τ x hf, encL_flat hf l]
theorem valsL_length {τ : RTy} (hf : τ.flat = true) (l : List τ.T) : (valsL τ l).length = l.length * τ.sz := by
  rw [← encL_length, encL_flat hf]; simp

theorem repR_v_inv' {w : World} {ok : Nat → Prop} {u x : Value} (h : RepR w ok u (.v x)) : u = x := by
  cases h; rfl

section
variable {P : Program}

/-- what a row of one's own may be, to a function that changes it where it stands -/
def InPlace (P : Program) [GT P] (f : FuncId) (τ : RTy) (e : TypeId) (l l' : List τ.T) (ys : List Value) : Prop :=
  (l = [] → ∀ (w : World) (a : Option Addr), GT.G P w → Calls P f (.slice a 0 0 :: ys).toArray w fun en w' => en = .returned (.tuple #[]) ∧ Grew w w' ∧ ∀ B, B < w.heap.size → w'.heap[B]? = w.heap[B]?) ∧
  ∀ (w : World) (B cap : Nat) (cur : Array Value), GT.G P w → w.heap[B]? = some (.cells cur e (0, 0)) → l.length ≤ cap → 0 < cap → cap ≤ maxLen → cur.size = cap * τ.sz → (∀ k, k < l.length * τ.sz → cur.getD k Go.undef = (valsL τ l).getD k Go.undef) →
    Calls P f (.slice (some ⟨B, 0, none⟩) l.length cap :: ys).toArray w fun en w' => en = .returned (.tuple #[]) ∧ Grew w w' ∧ (∀ B', B' < w.heap.size → B' ≠ B → w'.heap[B']? = w.heap[B']?) ∧
      ∃ cur', w'.heap[B]? = some (.cells cur' e (0, 0)) ∧ cur'.size = cur.size ∧ ∀ k, k < l.length * τ.sz → cur'.getD k Go.undef = (valsL τ l').getD k Go.undef

theorem cc_inplace [GT P] {f : FuncId} {τ : RTy} {e : TypeId} {l l' : List τ.T} (hflat : τ.flat = true) (hlen : l'.length = l.length) {xs : List AV} {ys : List Value} (hxl : xs.length = ys.length)
    (hx : ∀ (w : World) (ok : Nat → Prop) (env : Env) (u : Value) (i : Nat), i < xs.length → Rep w ok env u (xs.getD i .undef) → u = ys.getD i Go.undef)
    (hf : ∃ fn c, P.funcs[f]? = some fn ∧ fn.body = some c ∧ (fn.name == "runtime.NumGoroutine") = false) (h : InPlace P f τ e l l' ys) :
    CC P f (.own 0 0 :: xs) [.row e τ l] (.tup []) [(0, .row e τ l')] := by
  refine ⟨hf, fun cx env vs hwf hG hh hent hm hs hargs => ?_⟩
  obtain ⟨top, h1, h2, h3, h4⟩ := hG
  have hG := GT.keep _ _ h3 h1
  obtain ⟨u, heu, hrep⟩ := hm.blk 0 0 (.row e τ l) rfl
  have hvs : vs = (u :: ys).toArray := by
    refine Array.ext (by rw [hs]; simp [hxl]) fun i hi hi2 => ?_
    have hi3 : i < xs.length + 1 := by rw [hs] at hi; simpa using hi
    have hr := hargs i (by simpa using hi3)
    cases i with
    | zero =>
      simp only [List.getD_cons_zero] at hr
      have : vs.getD 0 Go.undef = u := by
        generalize vs.getD 0 Go.undef = z at hr
        cases hr with
        | own hR =>
          obtain ⟨cv, x, e1, e2, e3⟩ := hR
          rw [heu] at e1
          simp at e1
          obtain ⟨rfl, rfl⟩ := e1
          exact e3 rfl
      simp [hi] at this
      simpa using this
    | succ i =>
      simp only [List.getD_cons_succ] at hr
      have := hx _ _ _ _ i (by omega) hr
      have hi4 : i < ys.length := by omega
      simp [hi, hi4] at this
      simpa using this
  subst hvs
  have upd : ∀ {w' : World}, Grew cx.w0 w' → (∀ B, B < cx.w0.heap.size → hblk u ≠ some B → w'.heap[B]? = cx.w0.heap[B]?) → RepB w' (okOf cx (env.put 0 0 u) w') (env.put 0 0 u) u (.row e τ l') →
      ∃ v env', (Ending.returned (.tuple #[]) : Ending) = .returned v ∧ Mem cx (numB 0 [(0, .row e τ l')]) w' env' ∧ Rep w' (okOf cx env' w') env' v (.tup []) := fun {w'} hg hk hr => by
    have T := mem_upd (ver := 0) (b := .row e τ l') hm (hh 0) ⟨⟨.inr ⟨0, u, heu, .inr ⟨rfl, rfl⟩⟩, hg, fun B hB hq => hk B hB (hq 0 u heu), fun B q => .inr ⟨0, u, heu, q⟩⟩, hr⟩
    exact ⟨_, _, rfl, T.mem, .tup _ _ rfl fun i hi => by simp at hi⟩
  generalize hb : Blk.row e τ l = b at hrep
  cases hrep with
  | rowNil _ _ a =>
    cases hb
    refine (h.1 rfl cx.w0 a hG).mono fun en w' ⟨he, hg, hk⟩ => ?_
    subst he
    refine upd hg (fun B hB _ => hk B hB) ?_
    have : l' = [] := List.length_eq_zero_iff.1 hlen
    subst this
    exact .rowNil _ _ _
  | row B _ _ _ cap cur hB hcap h0 hmx hsz hc =>
    cases hb
    refine (h.2 cx.w0 B cap cur hG hB hcap h0 hmx hsz fun k hk => ?_).mono fun en w' ⟨he, hg, hk, cur', hB', hs', hc'⟩ => ?_
    · have := hc k hk
      rw [encL_flat hflat] at this
      have hk2 : k < (valsL τ l).length := by rw [valsL_length hflat]; exact hk
      have e1 : ((valsL τ l).map RV.v).getD k .undef = .v ((valsL τ l).getD k Go.undef) := by simp [hk2]
      rw [e1] at this
      exact repR_v_inv' this
    · subst he
      have hhb : hblk (.slice (some ⟨B, 0, none⟩) l.length cap) = some B := hblk_sl h0
      refine upd hg (fun B' hB2 hq => hk B' hB2 fun q => hq (by rw [hhb, q])) ?_
      have R := RepB.row (env := env.put 0 0 (.slice (some ⟨B, 0, none⟩) l.length cap)) (ok := okOf cx (env.put 0 0 (.slice (some ⟨B, 0, none⟩) l.length cap)) w') B e τ l' cap cur' hB' (by omega) h0 hmx (by rw [hs', hsz]) fun k hk => by
        rw [hlen] at hk
        rw [hc' k hk, encL_flat hflat]
        have hk2 : k < (valsL τ l').length := by rw [valsL_length hflat, hlen]; exact hk
        simp [hk2]
        exact .v _
      rw [hlen] at R
      exact R
  | _ => cases hb

theorem cell_holds {w : World} {B : Nat} {cur : Array Value} {e : TypeId} (hB : w.heap[B]? = some (.cells cur e (0, 0))) {F : Array Value} (hs : F.size ≤ cur.size) (h : ∀ k, k < F.size → cur.getD k Go.undef = F.getD k Go.undef) : Holds id w B 0 F := fun j hj => by
  have hj2 : j < cur.size := by omega
  refine ⟨?_, ?_⟩
  · have := h j hj
    simp [hj, hj2] at this
    unfold World.cell?
    simp [hB, hj2, this, hj]
  · unfold World.frozen?
    simp [hB]

theorem putRow_block {w : World} {B : Nat} {cur : Array Value} {e : TypeId} (n : Nat) (hB : w.heap[B]? = some (.cells cur e (0, 0))) (F : Array Value) (os : Array Obj) (hs : F.size ≤ cur.size) :
    let w' := grow (putRow id (Sort.ahead w n) B 0 F) os
    Grew w w' ∧ (∀ B', B' < w.heap.size → B' ≠ B → w'.heap[B']? = w.heap[B']?) ∧ ∃ cur', w'.heap[B]? = some (.cells cur' e (0, 0)) ∧ cur'.size = cur.size ∧ ∀ k, k < F.size → cur'.getD k Go.undef = F.getD k Go.undef := by
  have hlt : B < w.heap.size := (Array.getElem?_eq_some_iff.1 hB).1
  have hsz : (putRow id (Sort.ahead w n) B 0 F).heap.size = w.heap.size := by simp [putRow, mapBlock, Sort.ahead]
  have hget : ∀ B', B' < w.heap.size → (grow (putRow id (Sort.ahead w n) B 0 F) os).heap[B']? = (w.heap.modify B (onCells (putCells id 0 F)))[B']? := fun B' hB' => by
    show (_ ++ os)[B']? = _
    rw [Array.getElem?_append_left (by rw [hsz]; exact hB')]
    rfl
  refine ⟨⟨?_, rfl, rfl⟩, fun B' hB' hne => ?_, putCells id 0 F cur, ?_, by simp [putCells], fun k hk => ?_⟩
  · show _ ≤ (_ ++ os).size
    simp [hsz]
  · rw [hget B' hB', Array.getElem?_modify]
    simp [Ne.symm hne]
  · rw [hget B hlt, Array.getElem?_modify]
    simp [hB, onCells]
  · have : k < cur.size := by omega
    simp [putCells, this, hk]

/-- slices.Sort at ints -/
theorem cc_sort_int [GT P] {ρ : Ren} (L : Lays.n189 P ρ) (hf : ∃ fn c, P.funcs[ρ.f 189]? = some fn ∧ fn.body = some c ∧ (fn.name == "runtime.NumGoroutine") = false) (e : TypeId) (l : List Int) (hb : l.length < 4611686018427387904) :
    CC P (ρ.f 189) [.own 0 0] [.row e (.int .i64) l] (.tup []) [(0, .row e (.int .i64) (l.mergeSort fun x y => decide (x ≤ y)))] := by
  have hv : ∀ l : List Int, valsL (.int .i64) l = l.map (Value.int .i64) := fun l => by
    induction l with
    | nil => rfl
    | cons x l ih => simp [valsL, vals, ih]
  refine cc_inplace (τ := .int .i64) (e := e) (l := l) (xs := []) (ys := []) rfl (List.length_mergeSort l) rfl (fun _ _ _ _ i hi => by simp at hi) hf ⟨fun _ w a _ => ?_, fun w B cap cur hG hB hcap h0 hmx hsz hc => ?_⟩
  · refine (Any.slices_Sort_int_none L a 0 w).mono fun en w' ⟨he, hw⟩ => ⟨he, ?_⟩
    subst hw
    exact ⟨Grew.refl _, fun _ _ => rfl⟩
  · have hsz' : cur.size = cap := by rw [hsz]; simp [RTy.sz]
    have hF : Holds (Value.int .i64) w B 0 l.toArray := fun j hj => by
      have hj : j < l.length := by simpa using hj
      have := (cell_holds hB (F := (l.map (Value.int .i64)).toArray) (by simp; omega) fun k hk => by
        have hk : k < l.length := by simpa using hk
        have := hc k (by simpa [RTy.sz] using hk)
        rw [hv] at this
        simpa using this) j (by simpa using hj)
      simpa [hj] using this
    refine (Any.slices_Sort_int L B 0 cap l w hF (Array.getElem?_eq_some_iff.1 hB).1 hb).mono fun en w' ⟨he, n, os, hw⟩ => ⟨he, ?_⟩
    have e0 : ∀ m : List Int, putRow (Value.int .i64) (Sort.ahead w n) B 0 m.toArray = putRow id (Sort.ahead w n) B 0 (m.map (Value.int .i64)).toArray := fun m => by
      unfold putRow
      congr 1
      funext c
      unfold putCells
      refine Array.ext (by simp) fun i h1 h2 => ?_
      by_cases q : i < m.length
      · simp [q]
      · simp [q]
    rw [e0] at hw
    subst hw
    have := putRow_block n hB ((l.mergeSort fun x y => decide (x ≤ y)).map (Value.int .i64)).toArray os (by simp; omega)
    refine ⟨this.1, this.2.1, ?_⟩
    obtain ⟨cur', h1, h2, h3⟩ := this.2.2
    refine ⟨cur', h1, h2, fun k hk => ?_⟩
    rw [h3 k (by simpa [RTy.sz] using hk), hv]
    simp
end
end Go.AM
namespace Go.AM
open Go Go.Proofs Go.Shelf Go.RowKit Go.Sort
section
variable {P : Program}

theorem flatK_valsL {α : Type} [Inhabited α] {τ : RTy} (hf : τ.flat = true) (dec : α → τ.T) (hpos : 0 < τ.sz) (d : Array α) :
    Sort.flatK (fun a => vals τ (dec a)) τ.sz d = (valsL τ (d.toList.map dec)).toArray := by
  have hl : ∀ (l : List α) (j i : Nat), j < l.length → i < τ.sz → (valsL τ (l.map dec)).getD (j * τ.sz + i) Go.undef = (vals τ (dec (l.getD j default))).getD i Go.undef := fun l => by
    induction l with
    | nil => intro j i h; simp at h
    | cons x l ih =>
      intro j i hj hi
      have hv := vals_length τ (dec x) hf
      cases j with
      | zero => simp [valsL, List.getElem?_append, hv, hi]
      | succ j =>
        have := ih j i (by simpa using hj) hi
        have e1 : (j + 1) * τ.sz + i - τ.sz = j * τ.sz + i := by rw [Nat.succ_mul]; omega
        have e2 : ¬ (j + 1) * τ.sz + i < τ.sz := by rw [Nat.succ_mul]; omega
        simpa [valsL, List.getElem?_append, hv, e1, e2] using this
  refine ext_get! (by simp [Sort.size_flatK, valsL_length hf]) fun t ht => ?_
  have ht' : t < d.size * τ.sz := by simpa using ht
  rw [Sort.get_flatK _ _ _ _ ht']
  have hd : t / τ.sz < d.size := Nat.div_lt_of_lt_mul (by rw [Nat.mul_comm]; exact ht')
  have := hl d.toList (t / τ.sz) (t % τ.sz) (by simpa using hd) (Nat.mod_lt _ hpos)
  rw [Nat.mul_comm, Nat.div_add_mod] at this
  have h2 : t < (valsL τ (d.toList.map dec)).length := by rw [valsL_length hf]; simpa using ht'
  have h3 : t % τ.sz < (vals τ (dec (d.toList.getD (t / τ.sz) default))).length := by rw [vals_length _ _ hf]; exact Nat.mod_lt _ hpos
  have e4 : d[t / τ.sz]! = d.toList.getD (t / τ.sz) default := by simp [hd]
  rw [e4, getElem!_pos (valsL τ (d.toList.map dec)).toArray t (by simpa using h2)]
  show (vals τ (dec (d.toList.getD (t / τ.sz) default)))[t % τ.sz]! = _
  rw [getElem!_pos (vals τ (dec (d.toList.getD (t / τ.sz) default))) (t % τ.sz) h3]
  rw [List.getD_eq_getElem?_getD, List.getD_eq_getElem?_getD, List.getElem?_eq_getElem h2, List.getElem?_eq_getElem h3] at this
  simpa using this.symm

/-- slices.SortFunc at structs of plain data -/
theorem cc_sortFunc [GT P] {ρ : Ren} (L : SlLaysF0.n6 P ρ) (hf : ∃ fn c, P.funcs[ρ.f 6]? = some fn ∧ fn.body = some c ∧ (fn.name == "runtime.NumGoroutine") = false) {τ : RTy} (hflat : τ.flat = true) (hpos : 0 < τ.sz)
    (aE : ∀ w, (isAgg (ρ.t 24)).run P w = .ok true w) (zE : ∀ w, (Go.sizeOf (ρ.t 24)).run P w = .ok τ.sz w) (e : TypeId) {α : Type} [Inhabited α] (dec : α → τ.T) (cf : α → α → Int) (hO : SWO (ltOf cf)) (g : Nat)
    (eg : ∀ args w, (callFunc g args).run P w = .ok (.enter g args) w) (hcmp : ∀ blk n w, CmpLays P g #[] (fun a => vals τ (dec a)) τ.sz cf blk 0 n w) (d : Array α) (hsz : d.size < 4611686018427387904) (h1 : ∀ x, ∀ v ∈ vals τ (dec x), v.oneCell' = true) :
    CC P (ρ.f 6) [.own 0 0, .r (.v (.func (.func g) #[] #[]))] [.row e τ (d.toList.map dec)] (.tup []) [(0, .row e τ ((pdq (ltOf cf) d 0 d.size (Lib.bitLen d.size) true true).toList.map dec))] := by
  have hp := pdq_sorts (ltOf cf) hO d 0 d.size (Lib.bitLen d.size) true true (Nat.zero_le _) (Nat.le_refl _) (Or.inl rfl)
  have hps : (pdq (ltOf cf) d 0 d.size (Lib.bitLen d.size) true true).size = d.size := hp.1.1
  refine cc_inplace (τ := τ) (e := e) (xs := [.r (.v (.func (.func g) #[] #[]))]) (ys := [.func (.func g) #[] #[]]) hflat (by simp [hps]) rfl (fun _ _ _ u i hi hr => ?_) hf ⟨fun h0 w a _ => ?_, fun w B cap cur hG hB hcap h0 hmx hs hc => ?_⟩
  · have : i = 0 := by simpa using hi
    subst this
    simp only [List.getD_cons_zero] at hr ⊢
    exact rep_v_inv hr
  · refine (AnyF.slices_SortFunc_none L a 0 _ w).mono fun en w' ⟨he, hw⟩ => ⟨he, ?_⟩
    subst hw
    exact ⟨Grew.refl _, fun _ _ => rfl⟩
  · have hl : (d.toList.map dec).length = d.size := by simp
    rw [hl] at hc hcap ⊢
    have hle : d.size * τ.sz ≤ cur.size := by rw [hs]; exact Nat.mul_le_mul_right _ hcap
    have hF : HoldsK (fun a => vals τ (dec a)) τ.sz w B 0 d := by
      unfold HoldsK
      rw [flatK_valsL hflat dec hpos]
      refine cell_holds hB (by simp [valsL_length hflat]; exact hle) fun k hk => ?_
      have hk : k < d.size * τ.sz := by simpa [valsL_length hflat] using hk
      rw [hc k hk]
      simp
    refine (AnyQ.slices_SortFunc_eq L τ.sz aE zE (fun a => vals τ (dec a)) (fun x => vals_length _ _ hflat) h1 cf hO g #[] B 0 cap d w eg (hcmp _ _ _) hF (Array.getElem?_eq_some_iff.1 hB).1 hsz).mono fun en w' ⟨he, n, os, hw⟩ => ⟨he, ?_⟩
    unfold sortWorldK putRowK at hw
    rw [flatK_valsL hflat dec hpos] at hw
    subst hw
    have hls : (valsL τ ((pdq (ltOf cf) d 0 d.size (Lib.bitLen d.size) true true).toList.map dec)).length = d.size * τ.sz := by rw [valsL_length hflat]; simp [hps]
    have := putRow_block n hB (valsL τ ((pdq (ltOf cf) d 0 d.size (Lib.bitLen d.size) true true).toList.map dec)).toArray os (by simp [hls]; exact hle)
    refine ⟨this.1, this.2.1, ?_⟩
    obtain ⟨cur', h1, h2, h3⟩ := this.2.2
    refine ⟨cur', h1, h2, fun k hk => ?_⟩
    rw [h3 k (by simpa [hls] using hk)]
    simp
end
end Go.AM
namespace Go.AM
open Go Go.Proofs Go.Shelf Go.RowKit Go.Sort
section
variable {P : Program}
/-- plain arguments; a fresh row of one's own comes out -/
theorem cc_fresh [GT P] {f : FuncId} {xs : List Value} {e : TypeId} {τ : RTy} {l : List τ.T} (hf : ∃ fn c, P.funcs[f]? = some fn ∧ fn.body = some c ∧ (fn.name == "runtime.NumGoroutine") = false)
    (h : ∀ w : World, GT.G P w → Calls P f xs.toArray w fun en w' => ∃ v, en = .returned v ∧ Grew w w' ∧ (∀ B, B < w.heap.size → w'.heap[B]? = w.heap[B]?) ∧ (∀ ok env, RepB w' ok env v (.row e τ l)) ∧ ∀ B, hblk v = some B → w.heap.size ≤ B ∧ B < w'.heap.size) :
    CC P f (rvals xs) [] (.own 0 0) [(0, .row e τ l)] := by
  refine ⟨hf, fun cx env vs hwf hG hh hent hm hs hargs => ?_⟩
  obtain ⟨top, h1, h2, h3, h4⟩ := hG
  have hlen : ∀ l : List Value, (rvals l).length = l.length := fun l => by induction l <;> simp [rvals, *]
  have hget : ∀ (l : List Value) (i : Nat), i < l.length → (rvals l).getD i .undef = .r (.v (l.getD i Go.undef)) := fun l => by
    induction l with
    | nil => intro i h; simp at h
    | cons x l ih =>
      intro i h
      cases i with
      | zero => rfl
      | succ i => simpa [rvals] using ih i (by simpa using h)
  have hvs : vs = xs.toArray := by
    refine Array.ext (by rw [hs, hlen]; simp) fun i hi hi2 => ?_
    have hi3 : i < xs.length := by simpa using hi2
    have := hargs i (by rw [hlen]; exact hi3)
    rw [hget xs i hi3] at this
    have := rep_v_inv this
    simpa [hi, hi3] using this
  subst hvs
  have none : ∀ n, env n = none := fun n => hm.dom n rfl (hh n)
  refine (h cx.w0 (GT.keep _ _ h3 h1)).mono fun en w' ⟨v, he, hg, hfr, hr, hb⟩ => ?_
  exact ⟨v, env.put 0 0 v, he, mem_one none hh hent hg hfr hb (hr _ _), .own ⟨0, _, by simp [Env.put], Nat.le_refl _, fun _ => rfl⟩⟩

/-- slices.Grow of nil -/
theorem cc_grow [GT P] {ρ : Ren} (L : Lays8.n4 P ρ) (hf : ∃ fn c, P.funcs[ρ.f 4]? = some fn ∧ fn.body = some c ∧ (fn.name == "runtime.NumGoroutine") = false) (i0 : TypeInfo) (z : Value) (hi0 : P.info? (ρ.t 25) = some i0) (hz0 : i0.zero = some z) (τ : RTy) (hs : i0.size = τ.sz) (hzs : z.cells.size = τ.sz) (hpos : 0 < τ.sz) (hby : 0 < i0.bytes)
    (n : Nat) (hbig : n * i0.bytes ≤ 140737488355328) : CC P (ρ.f 4) [.r (.v (.slice none 0 0)), .r (.v (.int .i64 n))] [] (.own 0 0) [(0, .row (ρ.t 25) τ [])] := by
  have hn : n ≤ 140737488355328 := Nat.le_trans (Nat.le_mul_of_pos_right _ hby) hbig
  refine cc_fresh (xs := [.slice none 0 0, .int .i64 n]) hf fun w _ => ?_
  by_cases h0 : n = 0
  · subst h0
    refine (Any8.slices_Grow_room L none 0 0 0 w (Nat.le_refl _) (by omega) (by omega) (by omega)).mono fun en w' ⟨he, hw⟩ => ?_
    subst hw
    exact ⟨_, he, Grew.refl _, fun _ _ => rfl, fun _ _ => .rowNil _ _ _, fun B hB => by simp [hblk] at hB⟩
  · refine (Any8.slices_Grow_grow L i0 z hi0 hz0 (by omega) none 0 0 n [] w (Nat.le_refl _) (by omega) (by simpa using hbig) (by omega) (by simp) (fun _ => rfl) (fun a ha => by cases ha)).mono fun en w' ⟨he, hw⟩ => ?_
    have hge := grownCap_ge w (0 + n) 0 (ρ.t 25)
    have hm := grownCap_le_maxLen w (0 + n) 0 (ρ.t 25) (by unfold maxLen; omega)
    subst hw
    refine ⟨_, he, ⟨?_, rfl, rfl⟩, fun B hB => ?_, fun ok env => ?_, fun B hB => ?_⟩
    · show w.heap.size ≤ (w.heap.push _).size
      simp
    · show (w.heap.push _)[B]? = _
      rw [Array.getElem?_push]
      simp; omega
    · refine .row w.heap.size (ρ.t 25) τ [] _ _ (heap_alloc_new w.drew _) (Nat.zero_le _) (by omega) hm ?_ fun k hk => by simp at hk
      simp only [Nat.zero_add] at hge ⊢
      simp [size_zeroCells, hzs, ← Nat.add_mul]
      congr 1
      omega
    · rw [hblk_sl (by omega)] at hB
      simp at hB
      subst hB
      refine ⟨Nat.le_refl _, ?_⟩
      show _ < (w.heap.push _).size
      simp
end
end Go.AM
namespace Go.AM
open Go Go.Proofs Go.Shelf Go.RowKit Go.Sort

/-- what is asked of an element's type -/
def elemOk (P : Program) (t : TypeId) (sz b : Nat) : Bool :=
  match P.info? t with
  | some i => match i.zero with
    | some z => Nat.beq i.size sz && (Nat.beq z.cells.size sz && (Nat.beq i.bytes b && (Nat.blt 0 sz && Nat.blt 0 b)))
    | none => false
  | none => false
theorem elemOk_spec {P : Program} {t : TypeId} {sz b : Nat} (h : elemOk P t sz b = true) : ∃ i z, P.info? t = some i ∧ i.zero = some z ∧ i.size = sz ∧ z.cells.size = sz ∧ i.bytes = b ∧ 0 < sz ∧ 0 < b := by
  unfold elemOk at h
  split at h
  · rename_i i hi
    split at h
    · rename_i z hz
      simp only [Bool.and_eq_true] at h
      exact ⟨i, z, hi, hz, Nat.eq_of_beq_eq_true h.1, Nat.eq_of_beq_eq_true h.2.1, Nat.eq_of_beq_eq_true h.2.2.1, Nat.le_of_ble_eq_true h.2.2.2.1, Nat.le_of_ble_eq_true h.2.2.2.2⟩
    · cases h
  · cases h

section
variable {P : Program}
theorem cc_clone' [GT P] {ρ : Ren} (L : SlLaysE0.n41 P ρ) {τ : RTy} {b : Nat} (he : elemOk P (ρ.t 23) τ.sz b = true) (z23 : ∀ w, (Go.sizeOf (ρ.t 23)).run P w = .ok τ.sz w)
    (hf : ∃ fn c, P.funcs[ρ.f 41]? = some fn ∧ fn.body = some c ∧ (fn.name == "runtime.NumGoroutine") = false) (l : List τ.T) (hbig : l.length * b ≤ 140737488355328) : CC P (ρ.f 41) [.r (.ro τ l)] [] (.own 0 0) [(0, .row (ρ.t 23) τ l)] := by
  obtain ⟨i, z, h1, h2, h3, h4, h5, h6, h7⟩ := elemOk_spec he
  subst h5
  exact cc_clone L h1 h2 h3 h4 h6 h7 z23 hf l hbig
theorem cc_grow' [GT P] {ρ : Ren} (L : Lays8.n4 P ρ) (hf : ∃ fn c, P.funcs[ρ.f 4]? = some fn ∧ fn.body = some c ∧ (fn.name == "runtime.NumGoroutine") = false) (τ : RTy) {b : Nat} (he : elemOk P (ρ.t 25) τ.sz b = true)
    (n : Int) (h0 : 0 ≤ n) (hbig : n.toNat * b ≤ 140737488355328) : CC P (ρ.f 4) [.r (.v (.slice none 0 0)), .r (.v (.int .i64 n))] [] (.own 0 0) [(0, .row (ρ.t 25) τ [])] := by
  obtain ⟨i, z, h1, h2, h3, h4, h5, h6, h7⟩ := elemOk_spec he
  subst h5
  obtain ⟨m, rfl⟩ := Int.eq_ofNat_of_zero_le h0
  exact cc_grow L hf i z h1 h2 τ h3 h4 h6 h7 m (by simpa using hbig)

/-- ints that a comparison by difference takes -/
def SmallI (x : Int) : Prop := 0 ≤ x ∧ x ≤ 4611686018427387904
instance (x : Int) : Decidable (SmallI x) := inferInstanceAs (Decidable (_ ∧ _))
abbrev SPair : Type := {x : Int × Int // SmallI x.1}
instance : Inhabited SPair := ⟨⟨(0, 0), by decide⟩⟩
def toSP : List (Int × Int) → List SPair
  | [] => []
  | x :: l => if h : SmallI x.1 then ⟨x, h⟩ :: toSP l else toSP l
theorem toSP_val : ∀ l : List (Int × Int), (∀ x ∈ l, SmallI x.1) → (toSP l).map (·.1) = l
  | [], _ => rfl
  | x :: l, h => by
    have h1 : SmallI x.1 := h x (by simp)
    simp [toSP, h1, toSP_val l fun y hy => h y (by simp [hy])]
def spCmp (x y : SPair) : Int := x.1.1 - y.1.1
theorem spCmp_lt (x y : SPair) : ltOf spCmp x y = decide (x.1.1 < y.1.1) := by
  unfold ltOf spCmp
  by_cases h : x.1.1 < y.1.1
  · rw [decide_eq_true h, decide_eq_true (by omega)]
  · rw [decide_eq_false h, decide_eq_false (by omega)]
theorem spCmp_swo : SWO (ltOf spCmp) where
  irrefl x := by rw [spCmp_lt]; simp
  trans x y z h1 h2 := by rw [spCmp_lt] at *; rw [decide_eq_true_iff] at *; omega
  ntrans x y z h1 h2 := by rw [spCmp_lt] at *; rw [decide_eq_false_iff_not] at *; omega
/-- pairs by their first numbers, as Go's sort lays them -/
def sortSP (l : List (Int × Int)) : List (Int × Int) := (pdq (ltOf spCmp) (toSP l).toArray 0 (toSP l).toArray.size (Lib.bitLen (toSP l).toArray.size) true true).toList.map (·.1)
end

theorem perm_sortSP {l : List (Int × Int)} (h : ∀ x ∈ l, SmallI x.1) : (sortSP l).Perm l := by
  have hp := (pdq_sorts (ltOf spCmp) spCmp_swo (toSP l).toArray 0 (toSP l).toArray.size (Lib.bitLen (toSP l).toArray.size) true true (Nat.zero_le _) (Nat.le_refl _) (Or.inl rfl)).1
  have h3 := hp.2.2
  have e1 : ∀ (d : Array SPair) (n : Nat), d.size = n → d.extract 0 n = d := fun d n hn => by subst hn; exact Array.extract_size
  rw [e1 _ _ hp.1, e1 _ _ rfl] at h3
  have := h3.map (fun x : SPair => x.1)
  unfold sortSP
  refine this.trans ?_
  show (List.map (fun x : SPair => x.1) (toSP l)).Perm l
  rw [toSP_val l h]

theorem sorted_sortSP {l : List (Int × Int)} : (sortSP l).Pairwise fun x y => x.1 ≤ y.1 := by
  have hp := pdq_sorts (ltOf spCmp) spCmp_swo (toSP l).toArray 0 (toSP l).toArray.size (Lib.bitLen (toSP l).toArray.size) true true (Nat.zero_le _) (Nat.le_refl _) (Or.inl rfl)
  have hs := hp.1.1
  have h := hp.2
  unfold sortSP
  generalize pdq (ltOf spCmp) (toSP l).toArray 0 (toSP l).toArray.size (Lib.bitLen (toSP l).toArray.size) true true = d at hs h
  rw [List.pairwise_map, List.pairwise_iff_getElem]
  intro i j hi hj hij
  have := h i j (Nat.zero_le _) hij (by rw [← hs]; simpa using hj)
  have hi' : i < d.size := by simpa using hi
  have hj' : j < d.size := by simpa using hj
  rw [getElem!_pos d i hi', getElem!_pos d j hj'] at this
  rw [spCmp_lt, decide_eq_false_iff_not] at this
  simp only [Array.getElem_toList]
  omega
end Go.AM
/-
  DERIVED: THE SHELF's CONTRACTS AT THIS DUMP, IN PLAIN WORDS (tools/lay-plain.mjs out of 'TryzjShelf.lean', which tools/lay-shelf.mjs wrote): THE SAME DECLARATIONS UNDER THE SAME NAMES: 'import', 'namespace', 'open', 'def', 'theorem' AND NOTHING ELSE: no command of the shelf's: FOR A HAND-IN. Each laying: the table of numbers ('.._ren') and one theorem, a field a fact of the dump's own or the kernel's comparison; each contract: ONE APPLICATION.
-/
namespace Go.Proofs
open Go.Shelf
def Tryz.sort_int_ren : Go.Shelf.Ren := ⟨fun | 189 => 83 | 125 => 89 | 257 => 94 | 128 => 107 | 129 => 108 | 294 => 109 | 295 => 110 | 296 => 111 | 297 => 112 | 298 => 113 | 299 => 114 | 216 => 115 | 300 => 116 | 301 => 117 | 328 => 125 | 329 => 121 | 330 => 122 | 331 => 126 | 332 => 127 | 215 => 128 | 343 => 130 | n => n, fun | 28 => 132 | 3 => 3 | 46 => 140 | 0 => 0 | 51 => 157 | 53 => 159 | 4 => 4 | 183 => 151 | 182 => 150 | 131 => 130 | 5 => 5 | 9 => 9 | 218 => 167 | 222 => 171 | 228 => 175 | 229 => 66 | n => n, fun | n => n⟩
theorem Tryz.sort_int : Go.Proofs.Lays.n189 Tryz.prog Tryz.sort_int_ren := {
  mixed := by kernel_rfl
  f125 := Tryz.func89.trans (congrArg some (by kernel_rfl))
  f128 := Tryz.func107.trans (congrArg some (by kernel_rfl))
  f129 := Tryz.func108.trans (congrArg some (by kernel_rfl))
  f189 := Tryz.func83.trans (congrArg some (by kernel_rfl))
  f215 := Tryz.func128.trans (congrArg some (by kernel_rfl))
  f216 := Tryz.func115.trans (congrArg some (by kernel_rfl))
  f257 := Tryz.func94.trans (congrArg some (by kernel_rfl))
  f294 := Tryz.func109.trans (congrArg some (by kernel_rfl))
  f295 := Tryz.func110.trans (congrArg some (by kernel_rfl))
  f296 := Tryz.func111.trans (congrArg some (by kernel_rfl))
  f297 := Tryz.func112.trans (congrArg some (by kernel_rfl))
  f298 := Tryz.func113.trans (congrArg some (by kernel_rfl))
  f299 := Tryz.func114.trans (congrArg some (by kernel_rfl))
  f300 := Tryz.func116.trans (congrArg some (by kernel_rfl))
  f301 := Tryz.func117.trans (congrArg some (by kernel_rfl))
  f328 := Tryz.func125.trans (congrArg some (by kernel_rfl))
  f329 := Tryz.func121.trans (congrArg some (by kernel_rfl))
  f330 := Tryz.func122.trans (congrArg some (by kernel_rfl))
  f331 := Tryz.func126.trans (congrArg some (by kernel_rfl))
  f332 := Tryz.func127.trans (congrArg some (by kernel_rfl))
  f343 := Tryz.func130.trans (congrArg some (by kernel_rfl))
  t0 := Tryz.underlying0
  a0 := Tryz.isAgg0
  z0 := Tryz.sizeOf0
  v0 := Tryz.zeroValue0
  t3 := Tryz.underlying3
  a3 := Tryz.isAgg3
  z3 := Tryz.sizeOf3
  v3 := Tryz.zeroValue3
  t4 := Tryz.underlying4
  a4 := Tryz.isAgg4
  z4 := Tryz.sizeOf4
  v4 := Tryz.zeroValue4
  t5 := Tryz.underlying5
  a5 := Tryz.isAgg5
  z5 := Tryz.sizeOf5
  v5 := Tryz.zeroValue5
  t9 := Tryz.underlying9
  a9 := Tryz.isAgg9
  z9 := Tryz.sizeOf9
  v9 := Tryz.zeroValue9
  t28 := Tryz.underlying132
  a28 := Tryz.isAgg132
  z28 := Tryz.sizeOf132
  v28 := Tryz.zeroValue132
  t46 := Tryz.underlying140
  a46 := Tryz.isAgg140
  z46 := Tryz.sizeOf140
  v46 := Tryz.zeroValue140
  t51 := Tryz.underlying157
  a51 := Tryz.isAgg157
  z51 := Tryz.sizeOf157
  v51 := Tryz.zeroValue157
  t53 := Tryz.underlying159
  a53 := Tryz.isAgg159
  z53 := Tryz.sizeOf159
  v53 := Tryz.zeroValue159
  t131 := Tryz.underlying130
  a131 := Tryz.isAgg130
  z131 := Tryz.sizeOf130
  v131 := Tryz.zeroValue130
  t182 := Tryz.underlying150
  a182 := Tryz.isAgg150
  z182 := Tryz.sizeOf150
  v182 := Tryz.zeroValue150
  t183 := Tryz.underlying151
  a183 := Tryz.isAgg151
  z183 := Tryz.sizeOf151
  v183 := Tryz.zeroValue151
  t218 := Tryz.underlying167
  a218 := Tryz.isAgg167
  z218 := Tryz.sizeOf167
  v218 := Tryz.zeroValue167
  t222 := Tryz.underlying171
  a222 := Tryz.isAgg171
  z222 := Tryz.sizeOf171
  v222 := Tryz.zeroValue171
  t228 := Tryz.underlying175
  a228 := Tryz.isAgg175
  z228 := Tryz.sizeOf175
  v228 := Tryz.zeroValue175
  t229 := Tryz.underlying66
  a229 := Tryz.isAgg66
  z229 := Tryz.sizeOf66
  v229 := Tryz.zeroValue66 }
def Tryz.clone_span_ren : Go.Shelf.Ren := ⟨fun | 41 => 75 | n => n, fun | 22 => 68 | 23 => 72 | 4 => 4 | n => n, fun | n => n⟩
theorem Tryz.clone_span : Go.Proofs.SlLaysE0.n41 Tryz.prog Tryz.clone_span_ren := {
  mixed := by kernel_rfl
  f41 := ⟨Tryz.f75.name, by decide, Tryz.func75.trans (congrArg some (by kernel_rfl))⟩
  t4 := Tryz.underlying4
  a4 := Tryz.isAgg4
  z4 := Tryz.sizeOf4
  v4 := Tryz.zeroValue4
  t22 := Tryz.underlying68
  a22 := Tryz.isAgg68
  z22 := Tryz.sizeOf68
  v22 := Tryz.zeroValue68 }
def Tryz.sort_span_ren : Go.Shelf.Ren := ⟨fun | 6 => 76 | 15 => 89 | 14 => 88 | 28 => 107 | 29 => 108 | 20 => 99 | 21 => 100 | 22 => 101 | 23 => 102 | 24 => 103 | 25 => 104 | 26 => 105 | 27 => 106 | 46 => 120 | 47 => 121 | 48 => 122 | 49 => 123 | 50 => 124 | 57 => 129 | n => n, fun | 22 => 68 | 24 => 72 | 25 => 127 | 3 => 3 | 39 => 140 | 0 => 0 | 53 => 157 | 55 => 159 | 4 => 4 | 46 => 151 | 45 => 150 | 50 => 130 | 5 => 5 | 9 => 9 | 66 => 167 | 70 => 171 | 76 => 175 | 77 => 66 | n => n, fun | n => n⟩
theorem Tryz.sort_span : Go.Proofs.SlLaysF0.n6 Tryz.prog Tryz.sort_span_ren := {
  mixed := by kernel_rfl
  f6 := ⟨Tryz.f76.name, by decide, Tryz.func76.trans (congrArg some (by kernel_rfl))⟩
  f14 := ⟨Tryz.f88.name, by decide, Tryz.func88.trans (congrArg some (by kernel_rfl))⟩
  f15 := Tryz.func89.trans (congrArg some (by kernel_rfl))
  f20 := ⟨Tryz.f99.name, by decide, Tryz.func99.trans (congrArg some (by kernel_rfl))⟩
  f21 := ⟨Tryz.f100.name, by decide, Tryz.func100.trans (congrArg some (by kernel_rfl))⟩
  f22 := ⟨Tryz.f101.name, by decide, Tryz.func101.trans (congrArg some (by kernel_rfl))⟩
  f23 := ⟨Tryz.f102.name, by decide, Tryz.func102.trans (congrArg some (by kernel_rfl))⟩
  f24 := ⟨Tryz.f103.name, by decide, Tryz.func103.trans (congrArg some (by kernel_rfl))⟩
  f25 := ⟨Tryz.f104.name, by decide, Tryz.func104.trans (congrArg some (by kernel_rfl))⟩
  f26 := ⟨Tryz.f105.name, by decide, Tryz.func105.trans (congrArg some (by kernel_rfl))⟩
  f27 := ⟨Tryz.f106.name, by decide, Tryz.func106.trans (congrArg some (by kernel_rfl))⟩
  f28 := Tryz.func107.trans (congrArg some (by kernel_rfl))
  f29 := Tryz.func108.trans (congrArg some (by kernel_rfl))
  f46 := ⟨Tryz.f120.name, by decide, Tryz.func120.trans (congrArg some (by kernel_rfl))⟩
  f47 := Tryz.func121.trans (congrArg some (by kernel_rfl))
  f48 := Tryz.func122.trans (congrArg some (by kernel_rfl))
  f49 := ⟨Tryz.f123.name, by decide, Tryz.func123.trans (congrArg some (by kernel_rfl))⟩
  f50 := ⟨Tryz.f124.name, by decide, Tryz.func124.trans (congrArg some (by kernel_rfl))⟩
  f57 := ⟨Tryz.f129.name, by decide, Tryz.func129.trans (congrArg some (by kernel_rfl))⟩
  t0 := Tryz.underlying0
  a0 := Tryz.isAgg0
  z0 := Tryz.sizeOf0
  v0 := Tryz.zeroValue0
  t3 := Tryz.underlying3
  a3 := Tryz.isAgg3
  z3 := Tryz.sizeOf3
  v3 := Tryz.zeroValue3
  t4 := Tryz.underlying4
  a4 := Tryz.isAgg4
  z4 := Tryz.sizeOf4
  v4 := Tryz.zeroValue4
  t5 := Tryz.underlying5
  a5 := Tryz.isAgg5
  z5 := Tryz.sizeOf5
  v5 := Tryz.zeroValue5
  t9 := Tryz.underlying9
  a9 := Tryz.isAgg9
  z9 := Tryz.sizeOf9
  v9 := Tryz.zeroValue9
  t22 := Tryz.underlying68
  a22 := Tryz.isAgg68
  z22 := Tryz.sizeOf68
  v22 := Tryz.zeroValue68
  t25 := Tryz.underlying127
  a25 := Tryz.isAgg127
  z25 := Tryz.sizeOf127
  v25 := Tryz.zeroValue127
  t39 := Tryz.underlying140
  a39 := Tryz.isAgg140
  z39 := Tryz.sizeOf140
  v39 := Tryz.zeroValue140
  t45 := Tryz.underlying150
  a45 := Tryz.isAgg150
  z45 := Tryz.sizeOf150
  v45 := Tryz.zeroValue150
  t46 := Tryz.underlying151
  a46 := Tryz.isAgg151
  z46 := Tryz.sizeOf151
  v46 := Tryz.zeroValue151
  t50 := Tryz.underlying130
  a50 := Tryz.isAgg130
  z50 := Tryz.sizeOf130
  v50 := Tryz.zeroValue130
  t53 := Tryz.underlying157
  a53 := Tryz.isAgg157
  z53 := Tryz.sizeOf157
  v53 := Tryz.zeroValue157
  t55 := Tryz.underlying159
  a55 := Tryz.isAgg159
  z55 := Tryz.sizeOf159
  v55 := Tryz.zeroValue159
  t66 := Tryz.underlying167
  a66 := Tryz.isAgg167
  z66 := Tryz.sizeOf167
  v66 := Tryz.zeroValue167
  t70 := Tryz.underlying171
  a70 := Tryz.isAgg171
  z70 := Tryz.sizeOf171
  v70 := Tryz.zeroValue171
  t76 := Tryz.underlying175
  a76 := Tryz.isAgg175
  z76 := Tryz.sizeOf175
  v76 := Tryz.zeroValue175
  t77 := Tryz.underlying66
  a77 := Tryz.isAgg66
  z77 := Tryz.sizeOf66
  v77 := Tryz.zeroValue66 }
def Tryz.grow_span_ren : Go.Shelf.Ren := ⟨fun | 4 => 93 | n => n, fun | 22 => 68 | 25 => 72 | 3 => 3 | 4 => 4 | 9 => 9 | 20 => 20 | 0 => 0 | 2 => 3 | n => n, fun | n => n⟩
theorem Tryz.grow_span : Go.Proofs.Lays8.n4 Tryz.prog Tryz.grow_span_ren := {
  mixed := by kernel_rfl
  f4 := ⟨Tryz.f93.name, by decide, Tryz.func93.trans (congrArg some (by kernel_rfl))⟩
  t0 := Tryz.underlying0
  a0 := Tryz.isAgg0
  z0 := Tryz.sizeOf0
  v0 := Tryz.zeroValue0
  t3 := Tryz.underlying3
  a3 := Tryz.isAgg3
  z3 := Tryz.sizeOf3
  v3 := Tryz.zeroValue3
  t4 := Tryz.underlying4
  a4 := Tryz.isAgg4
  z4 := Tryz.sizeOf4
  v4 := Tryz.zeroValue4
  t9 := Tryz.underlying9
  a9 := Tryz.isAgg9
  z9 := Tryz.sizeOf9
  v9 := Tryz.zeroValue9
  t20 := Tryz.underlying20
  a20 := Tryz.isAgg20
  z20 := Tryz.sizeOf20
  v20 := Tryz.zeroValue20
  t22 := Tryz.underlying68
  a22 := Tryz.isAgg68
  z22 := Tryz.sizeOf68
  v22 := Tryz.zeroValue68 }
end Go.Proofs
namespace Go.AM
open Go Go.Proofs
noncomputable section
abbrev R_u84 : Type := List (T10).T
def res_u84 (r : R_u84) : AV := .own 0 0
def bo_u84 (s_ : List (T10).T) (r : R_u84) : List (Nat × Blk) := [(0, .row 72 T10 r)]
def args_u84 (s_ : List (T10).T) : List AV := [.r (.ro T10 s_)]
def bin_u84 (s_ : List (T10).T) : List Blk := []
abbrev C_u84 (s_ : List (T10).T) (r : R_u84) : Prop := CC Tryz.prog 75 (args_u84 s_) (bin_u84 s_) (res_u84 r) (bo_u84 s_ r)
def f_u84 (k : Nat) (s_ : List (T10).T) : Option R_u84 := if s_.length * 16 ≤ 140737488355328 then some s_ else none
def v_u84 (k : Nat) (s_ : List (T10).T) : R_u84 := (f_u84 k s_).getD []
def ke_u84 (k : Nat) : Ke := (75, fun xs => match xs with
  | [_] => some [false]
  | _ => none, fun xs bs => match xs, bs with
  | [.r (.ro ts__ qs_)], [] => (castL ts__ T10 qs_).bind fun s_ => some (.one (res_u84 (v_u84 k s_), bo_u84 s_ (v_u84 k s_)))
  | _, _ => none)
theorem of_u84 (k : Nat) (s_ : List (T10).T) (r : R_u84) (h : f_u84 k s_ = some r) : CC Tryz.prog 75 (args_u84 s_) (bin_u84 s_) (res_u84 r) (bo_u84 s_ r) := by
  unfold f_u84 at h
  split at h
  · rename_i q
    cases h
    exact cc_clone' (τ := T10) Tryz.clone_span (by kernel_rfl) Tryz.sizeOf72 ⟨Tryz.f75, _, Tryz.func75, rfl, by kernel_rfl⟩ s_ q
  · cases h
theorem cc_u84 {k : Nat} {s_ : List (T10).T} (h : (f_u84 k s_).isSome = true) : C_u84 s_ (v_u84 k s_) := ccG (Φ := C_u84 s_) h (of_u84 k s_)
abbrev R_u87 : Type := List (T10).T
def res_u87 (r : R_u87) : AV := .tup []
def bo_u87 (x_ : List (T10).T) (r : R_u87) : List (Nat × Blk) := [(0, .row 72 T10 r)]
def args_u87 (x_ : List (T10).T) : List AV := [.own 0 0, .r (.v (.func (.func 77) #[] #[]))]
def bin_u87 (x_ : List (T10).T) : List Blk := [.row 72 T10 x_]
abbrev C_u87 (x_ : List (T10).T) (r : R_u87) : Prop := CC Tryz.prog 76 (args_u87 x_) (bin_u87 x_) (res_u87 r) (bo_u87 x_ r)
theorem cmp_ (x y : SPair) (W : World) : Calls Tryz.prog 77 #[.agg #[.int .i64 x.1.1, .int .i64 x.1.2], .agg #[.int .i64 y.1.1, .int .i64 y.1.2]] W fun e w' => e = .returned (.int .i64 (spCmp x y)) ∧ ∃ q os', w' = Sort.grow (W.drewN q) os' := by
  have hw : RowKit.wrap64 (x.1.1 - y.1.1) = spCmp x y := by
    have h1 := x.2; have h2 := y.2
    unfold SmallI at h1 h2
    unfold RowKit.wrap64 spCmp
    omega
  go_enter Tryz.func77, Tryz.ntmps77
  go_wp2
  go_ret
  exact ⟨by rw [← hw]; rfl, 0, _, by rw [Sort.alloc_eq_grow, Sort.alloc_eq_grow, Sort.grow_grow]; rfl⟩
def f_u87 (k : Nat) (x_ : List (T10).T) : Option R_u87 := if (x_.all fun x => decide (SmallI x.1)) = true ∧ x_.length < 4611686018427387904 then some (sortSP x_) else none
def v_u87 (k : Nat) (x_ : List (T10).T) : R_u87 := (f_u87 k x_).getD []
def ke_u87 (k : Nat) : Ke := (76, fun xs => match xs with
  | [.own _ _, .r (.v (.func (.func 77) _ _))] => some [true, false]
  | _ => none, fun xs bs => match xs, bs with
  | [.own 0 0, .r (.v (.func (.func 77) _ _))], [.row 72 tx__ qx_] => (castL tx__ T10 qx_).bind fun x_ => some (.one (res_u87 (v_u87 k x_), bo_u87 x_ (v_u87 k x_)))
  | _, _ => none)
theorem of_u87 (k : Nat) (x_ : List (T10).T) (r : R_u87) (h : f_u87 k x_ = some r) : CC Tryz.prog 76 (args_u87 x_) (bin_u87 x_) (res_u87 r) (bo_u87 x_ r) := by
  unfold f_u87 at h
  split at h
  · rename_i q
    cases h
    have h1 : (toSP x_).map (·.1) = x_ := toSP_val x_ fun x hx => by simpa using List.all_eq_true.1 q.1 x hx
    have hl : (toSP x_).toArray.size = x_.length := by
      have := congrArg List.length h1
      simpa using this
    have := cc_sortFunc (P := Tryz.prog) Tryz.sort_span ⟨Tryz.f76, _, Tryz.func76, rfl, by kernel_rfl⟩ (τ := T10) rfl (by decide) Tryz.isAgg72 Tryz.sizeOf72 72 (α := SPair) (fun x => x.1) spCmp spCmp_swo 77 (enters_of Tryz.func77 (by kernel_rfl) rfl) (fun blk n w => fun _ _ _ _ x y => cmp_ x y _) (toSP x_).toArray (by rw [hl]; exact q.2) (fun x v hv => by simp [vals] at hv; rcases hv with rfl | rfl <;> rfl)
    have e2 : (toSP x_).toArray.toList.map (fun x : SPair => x.1) = x_ := h1
    rw [e2] at this
    exact this
  · cases h
theorem cc_u87 {k : Nat} {x_ : List (T10).T} (h : (f_u87 k x_).isSome = true) : C_u87 x_ (v_u87 k x_) := ccG (Φ := C_u87 x_) h (of_u87 k x_)
abbrev R_u94 : Type := Int
def res_u94 (r : R_u94) : AV := .r (.v (.int .i64 r))
def bo_u94 (a_ : T10.T) (b_ : T10.T) (r : R_u94) : List (Nat × Blk) := []
def f_u94 (k : Nat) (a_ : T10.T) (b_ : T10.T) : Option R_u94 :=
  some (IntKind.i64.wrap (a_.1 - b_.1))
def v_u94 (k : Nat) (a_ : T10.T) (b_ : T10.T) : R_u94 := (f_u94 k a_ b_).getD 0
def ke_u94 (k : Nat) : Ke := (77, fun xs => match xs with
  | [_, _] => some [false, false]
  | _ => none, fun xs bs => match xs, bs with
  | [.agg qa_, .agg qb_], [] => (decS [] T10 qa_).bind fun a_ => (decS [] T10 qb_).bind fun b_ => some (.one (res_u94 (v_u94 k a_ b_), bo_u94 a_ b_ (v_u94 k a_ b_)))
  | _, _ => none)
end
end Go.AM
namespace Go.AM
open Go Go.Proofs
noncomputable section
abbrev R_u93 : Type := List (T10).T
def res_u93 (r : R_u93) : AV := .r (.ro T10 r)
def bo_u93 (l_ : List (T10).T) (r : R_u93) : List (Nat × Blk) := []
def args_u93 (l_ : List (T10).T) : List AV := [.r (.ro T10 l_)]
def bin_u93 (l_ : List (T10).T) : List Blk := []
abbrev C_u93 (l_ : List (T10).T) (r : R_u93) : Prop := CC Tryz.prog 61 (args_u93 l_) (bin_u93 l_) (res_u93 r) (bo_u93 l_ r)
def st_u93_6 (y0 : Int) (y1 : Int) (y2 : List (T10).T) (y3 : T10.T) (y4 : List (T10).T) : St := ⟨mkS 66 [(3, .own 1000000 0), (4, .ptr 1000001 0 0), (12, .own 1000002 0), (13, .r (.v (.int .i64 y0))), (14, .r (.v (.int .i64 y1)))], [(1000000, 0, .row 72 T10 y2), (1000001, 0, .var 72 (rvs (enc T10 y3))), (1000002, 0, .row 72 T10 y4)]⟩
def f_u93_6 (k : Nat) : Nat → Int → Int → List (T10).T → T10.T → List (T10).T → Option R_u93
  | 0, _, _, _, _, _ => none
  | j + 1, y0, y1, y2, y3, y4 =>
  bif (decide (y1 < y0)) then
  if (0 ≤ y1) ∧ (y1 < (↑y4.length : Int)) then
  bif (decide ((y4.getD y1.toNat T10.dflt).1 ≥ (y4.getD y1.toNat T10.dflt).2) || eqT T10 (y4.getD y1.toNat T10.dflt) y3) then
  f_u93_6 k j y0 ((IntKind.i64.wrap (y1 + 1))) y2 ((y4.getD y1.toNat T10.dflt)) y4
  else
  if (decide ((↑y2.length : Int) > (0 : Int)) = true → (0 : Int) ≤ IntKind.i64.wrap ((↑y2.length : Int) - (1 : Int))) ∧ (decide ((↑y2.length : Int) > (0 : Int)) = true → IntKind.i64.wrap ((↑y2.length : Int) - (1 : Int)) < (↑y2.length : Int)) then
  bif (decide ((↑y2.length : Int) > (0 : Int)) && decide ((y4.getD y1.toNat T10.dflt).1 ≤ (y2.getD (IntKind.i64.wrap ((↑y2.length : Int) - (1 : Int))).toNat T10.dflt).2)) then
  if ((0 : Int) ≤ IntKind.i64.wrap ((↑y2.length : Int) - (1 : Int))) ∧ (IntKind.i64.wrap ((↑y2.length : Int) - (1 : Int)) < (↑y2.length : Int)) ∧ ((0 : Int) ≤ IntKind.i64.wrap ((↑y2.length : Int) - (1 : Int))) ∧ (IntKind.i64.wrap ((↑y2.length : Int) - (1 : Int)) < (↑y2.length : Int)) then
  f_u93_6 k j y0 ((IntKind.i64.wrap (y1 + 1))) ((y2.set (IntKind.i64.wrap ((↑y2.length : Int) - 1)).toNat ((y2.getD (IntKind.i64.wrap ((↑y2.length : Int) - 1)).toNat T10.dflt).1, if (y4.getD y1.toNat T10.dflt).2 > (y2.getD (IntKind.i64.wrap ((↑y2.length : Int) - 1)).toNat T10.dflt).2 then (y4.getD y1.toNat T10.dflt).2 else (y2.getD (IntKind.i64.wrap ((↑y2.length : Int) - 1)).toNat T10.dflt).2))) ((y4.getD y1.toNat T10.dflt)) y4
  else none
  else
  if ((y2.length + [y4.getD y1.toNat T10.dflt].length) * (16 : Nat) ≤ (140737488355328 : Nat)) then
  f_u93_6 k j y0 ((IntKind.i64.wrap (y1 + 1))) ((y2 ++ [y4.getD y1.toNat T10.dflt])) ((y4.getD y1.toNat T10.dflt)) y4
  else none
  else none
  else none
  else
  some y2
def f_u93 (k : Nat) (l_ : List (T10).T) : Option R_u93 :=
  if ((f_u84 k l_).isSome = true) then
  if ((f_u87 k (v_u84 k l_)).isSome = true) then
  f_u93_6 k k ((↑ (List.length (v_u87 k (v_u84 k l_))) : Int)) 0 ([]) ((0, 0)) ((v_u87 k (v_u84 k l_)))
  else none
  else none
def v_u93 (k : Nat) (l_ : List (T10).T) : R_u93 := (f_u93 k l_).getD []
def ke_u93 (k : Nat) : Ke := (61, fun xs => match xs with
  | [_] => some [false]
  | _ => none, fun xs bs => match xs, bs with
  | [.r (.ro tl__ ql_)], [] => (castL tl__ T10 ql_).bind fun l_ => some (.one (res_u93 (v_u93 k l_), bo_u93 l_ (v_u93 k l_)))
  | _, _ => none)
def K_u93 (k : Nat) : Calld := mkK [ke_u84 k, ke_u87 k, ke_u94 k]
def cs_u93 : List (Nat × List Cmd) := [(6, [.row 3 72 T10, .autoB [3, 4, 12, 13, 14] false []])]
abbrev E_u93 (l_ : List (T10).T) (todo : List Item) (st : St) (o : Option R_u93) : Prop := ∀ r, o = some r → Ev Tryz.prog Tryz.f61 0 todo st (res_u93 r) (bo_u93 l_ r)
theorem ev_u93 (k : Nat) (l_ : List (T10).T) : ∀ j, (∀ (y0 : Int) (y1 : Int) (y2 : List (T10).T) (y3 : T10.T) (y4 : List (T10).T), E_u93 l_ (placeAt Tryz.f61 6) (st_u93_6 y0 y1 y2 y3 y4) (f_u93_6 k j y0 y1 y2 y3 y4))
  | 0 => fun _ _ _ _ _ _ h => (nomatch h)
  | j + 1 => by
    have ih := @ev_u93 k l_ j
    · intro y0 y1 y2 y3 y4 r h
      rw [f_u93_6] at h
      exact go (K_u93 k) [] cs_u93 [.frz 2 false (RTy.list T10), .autoB [2] true []] (gT h (fun c h => gN2 h fun h => gT h (fun c h => gC h 6 (ih _ _ _ _ _ _)) fun c h => gN2 h fun h => gT h (fun c h => gN h (fun q => conjC q.1 (conjC q.2.1 (conjC q.2.2.1 (conjC q.2.2.2 conj0)))) fun h => gC h 6 (ih _ _ _ _ _ _)) fun c h => gN1 h id fun h => gC h 6 (ih _ _ _ _ _ _)) fun c h => gL h) (by kernel_rfl)
theorem of_u93 (k : Nat) (l_ : List (T10).T) (r : R_u93) (h : f_u93 k l_ = some r) : C_u93 l_ r := by
  refine CC.of (fn := Tryz.f61) (by kernel_rfl) (by kernel_rfl) (by kernel_rfl) (by kernel_rfl) ?_
  unfold f_u93 at h
  exact go (K_u93 k) [] cs_u93 [.frz 2 false (RTy.list T10), .autoB [2] true []] (gN1 h (fun q => cc_u84 q) fun h => gN1 h (fun q => cc_u87 q) fun h => gC h 6 ((ev_u93 k l_ k) _ _ _ _ _ _)) (by kernel_rfl)
theorem cc_u93 {k : Nat} {l_ : List (T10).T} (h : (f_u93 k l_).isSome = true) : C_u93 l_ (v_u93 k l_) := ccG (Φ := C_u93 l_) h (of_u93 k l_)
abbrev R_u86 : Type := List (T10).T
def res_u86 (r : R_u86) : AV := .own 0 0
def bo_u86 (n_ : Int) (r : R_u86) : List (Nat × Blk) := [(0, .row 72 T10 r)]
def args_u86 (n_ : Int) : List AV := [.r (.v (Value.slice none 0 0)), .r (.v (.int .i64 n_))]
def bin_u86 (n_ : Int) : List Blk := []
abbrev C_u86 (n_ : Int) (r : R_u86) : Prop := CC Tryz.prog 93 (args_u86 n_) (bin_u86 n_) (res_u86 r) (bo_u86 n_ r)
def f_u86 (k : Nat) (n_ : Int) : Option R_u86 := if 0 ≤ n_ ∧ n_.toNat * 16 ≤ 140737488355328 then some [] else none
def v_u86 (k : Nat) (n_ : Int) : R_u86 := (f_u86 k n_).getD []
def ke_u86 (k : Nat) : Ke := (93, fun xs => match xs with
  | [.r (.v (Value.slice none 0 0)), _] => some [true, false]
  | _ => none, fun xs bs => match xs, bs with
  | [.r (.v (Value.slice none 0 0)), .r (.v (.int .i64 n_))], [] => some (.one (res_u86 (v_u86 k n_), bo_u86 n_ (v_u86 k n_)))
  | _, _ => none)
theorem of_u86 (k : Nat) (n_ : Int) (r : R_u86) (h : f_u86 k n_ = some r) : CC Tryz.prog 93 (args_u86 n_) (bin_u86 n_) (res_u86 r) (bo_u86 n_ r) := by
  unfold f_u86 at h
  split at h
  · rename_i q
    cases h
    exact cc_grow' Tryz.grow_span ⟨Tryz.f93, _, Tryz.func93, rfl, by kernel_rfl⟩ T10 (by kernel_rfl) n_ q.1 q.2
  · cases h
theorem cc_u86 {k : Nat} {n_ : Int} (h : (f_u86 k n_).isSome = true) : C_u86 n_ (v_u86 k n_) := ccG (Φ := C_u86 n_) h (of_u86 k n_)
abbrev R_u85 : Type := List (T10).T
def res_u85 (r : R_u85) : AV := .own 0 0
def bo_u85 (slices_ : List (RTy.list T10).T) (r : R_u85) : List (Nat × Blk) := [(0, .row 72 T10 r)]
def args_u85 (slices_ : List (RTy.list T10).T) : List AV := [.r (.ro (RTy.list T10) slices_)]
def bin_u85 (slices_ : List (RTy.list T10).T) : List Blk := []
abbrev C_u85 (slices_ : List (RTy.list T10).T) (r : R_u85) : Prop := CC Tryz.prog 82 (args_u85 slices_) (bin_u85 slices_) (res_u85 r) (bo_u85 slices_ r)
def st_u85_3 (y0 : List (T10.list).T) (y1 : Int) (y2 : List (T10.list).T) (y3 : Int) (y4 : Int) : St := ⟨mkS 36 [(0, .r (.ro T10.list y0)), (3, .r (.v (.int .i64 y1))), (9, .r (.ro T10.list y2)), (10, .r (.v (.int .i64 y3))), (11, .r (.v (.int .i64 y4)))], []⟩
def st_u85_11 (y0 : List (T10.list).T) (y1 : Int) (y2 : Int) (y3 : List (T10).T) : St := ⟨mkS 36 [(6, .own 1000000 0), (25, .r (.ro T10.list y0)), (26, .r (.v (.int .i64 y1))), (27, .r (.v (.int .i64 y2)))], [(1000000, 0, .row 72 T10 y3)]⟩
mutual
def f_u85_3 (k : Nat) : Nat → List (T10.list).T → Int → List (T10.list).T → Int → Int → Option R_u85
  | 0, _, _, _, _, _ => none
  | j + 1, y0, y1, y2, y3, y4 =>
  bif (decide (y4 < y3)) then
  if (0 ≤ y4) ∧ (y4 < (↑y2.length : Int)) then
  bif (decide (IntKind.i64.wrap (y1 + (↑ (List.length (y2.getD y4.toNat T10.list.dflt)) : Int)) < (0 : Int))) then
  none
  else
  f_u85_3 k j y0 ((IntKind.i64.wrap (y1 + (↑ (List.length (y2.getD y4.toNat T10.list.dflt)) : Int)))) y2 y3 ((IntKind.i64.wrap (y4 + 1)))
  else none
  else
  if ((f_u86 k y1).isSome = true) then
  f_u85_11 k j y0 ((↑y0.length : Int)) 0 ((v_u86 k y1))
  else none
def f_u85_11 (k : Nat) : Nat → List (T10.list).T → Int → Int → List (T10).T → Option R_u85
  | 0, _, _, _, _ => none
  | j + 1, y0, y1, y2, y3 =>
  bif (decide (y2 < y1)) then
  if (0 ≤ y2) ∧ (y2 < (↑y0.length : Int)) then
  if ((y3.length + List.length (y0.getD y2.toNat T10.list.dflt)) * (16 : Nat) ≤ (140737488355328 : Nat)) then
  f_u85_11 k j y0 y1 ((IntKind.i64.wrap (y2 + 1))) ((y3 ++ y0.getD y2.toNat T10.list.dflt))
  else none
  else none
  else
  some y3
end
def f_u85 (k : Nat) (slices_ : List (RTy.list T10).T) : Option R_u85 :=
  f_u85_3 k k slices_ 0 slices_ ((↑slices_.length : Int)) 0
def v_u85 (k : Nat) (slices_ : List (RTy.list T10).T) : R_u85 := (f_u85 k slices_).getD []
def ke_u85 (k : Nat) : Ke := (82, fun xs => match xs with
  | [_] => some [false]
  | _ => none, fun xs bs => match xs, bs with
  | [.r (.ro tslices__ qslices_)], [] => (castL tslices__ (RTy.list T10) qslices_).bind fun slices_ => some (.one (res_u85 (v_u85 k slices_), bo_u85 slices_ (v_u85 k slices_)))
  | _, _ => none)
def cs_u85 : List (Nat × List Cmd) := [(3, [.autoB [0, 3, 9, 10, 11] false []]), (11, [.autoB [6, 25, 26, 27] false []])]
abbrev E_u85 (slices_ : List (RTy.list T10).T) (todo : List Item) (st : St) (o : Option R_u85) : Prop := ∀ r, o = some r → Ev Tryz.prog Tryz.f82 0 todo st (res_u85 r) (bo_u85 slices_ r)
theorem ev_u85 (k : Nat) (slices_ : List (RTy.list T10).T) : ∀ j, (∀ (y0 : List (T10.list).T) (y1 : Int) (y2 : List (T10.list).T) (y3 : Int) (y4 : Int), E_u85 slices_ (placeAt Tryz.f82 3) (st_u85_3 y0 y1 y2 y3 y4) (f_u85_3 k j y0 y1 y2 y3 y4)) ∧ (∀ (y0 : List (T10.list).T) (y1 : Int) (y2 : Int) (y3 : List (T10).T), E_u85 slices_ (placeAt Tryz.f82 11) (st_u85_11 y0 y1 y2 y3) (f_u85_11 k j y0 y1 y2 y3))
  | 0 => ⟨fun _ _ _ _ _ _ h => (nomatch h), fun _ _ _ _ _ h => (nomatch h)⟩
  | j + 1 => by
    have ih := @ev_u85 k slices_ j
    refine ⟨?_, ?_⟩
    · intro y0 y1 y2 y3 y4 r h
      rw [f_u85_3] at h
      exact go (mkK [ke_u86 k]) [] cs_u85 [.autoB [2] true []] (gT h (fun c h => gN2 h fun h => gT h (fun c h => gZ h (.stuck 5000)) fun c h => gC h 3 (ih.1 _ _ _ _ _ _)) fun c h => gN1 h (fun q => cc_u86 q) fun h => gC h 11 (ih.2 _ _ _ _ _)) (by kernel_rfl)
    · intro y0 y1 y2 y3 r h
      rw [f_u85_11] at h
      exact go (mkK [ke_u86 k]) [] cs_u85 [.autoB [2] true []] (gT h (fun c h => gN2 h fun h => gN1 h id fun h => gC h 11 (ih.2 _ _ _ _ _)) fun c h => gL h) (by kernel_rfl)
theorem of_u85 (k : Nat) (slices_ : List (RTy.list T10).T) (r : R_u85) (h : f_u85 k slices_ = some r) : C_u85 slices_ r := by
  refine CC.of (fn := Tryz.f82) (by kernel_rfl) (by kernel_rfl) (by kernel_rfl) (by kernel_rfl) ?_
  unfold f_u85 at h
  exact go (mkK [ke_u86 k]) [] cs_u85 [.autoB [2] true []] (gC h 3 ((ev_u85 k slices_ k).1 _ _ _ _ _ _)) (by kernel_rfl)
theorem cc_u85 {k : Nat} {slices_ : List (RTy.list T10).T} (h : (f_u85 k slices_).isSome = true) : C_u85 slices_ (v_u85 k slices_) := ccG (Φ := C_u85 slices_) h (of_u85 k slices_)
abbrev R_u88 : Type := List Int
def res_u88 (r : R_u88) : AV := .tup []
def bo_u88 (x_ : List (I).T) (r : R_u88) : List (Nat × Blk) := [(0, .row 3 (RTy.int .i64) r)]
def args_u88 (x_ : List (I).T) : List AV := [.own 0 0]
def bin_u88 (x_ : List (I).T) : List Blk := [.row 3 I x_]
abbrev C_u88 (x_ : List (I).T) (r : R_u88) : Prop := CC Tryz.prog 83 (args_u88 x_) (bin_u88 x_) (res_u88 r) (bo_u88 x_ r)
def f_u88 (k : Nat) (x_ : List Int) : Option R_u88 := if x_.length < 4611686018427387904 then some (x_.mergeSort fun x y => decide (x ≤ y)) else none
def v_u88 (k : Nat) (x_ : List (I).T) : R_u88 := (f_u88 k x_).getD []
def ke_u88 (k : Nat) : Ke := (83, fun xs => match xs with
  | [.own _ _] => some [true]
  | _ => none, fun xs bs => match xs, bs with
  | [.own 0 0], [.row 3 tx__ qx_] => (castL tx__ I qx_).bind fun x_ => some (.one (res_u88 (v_u88 k x_), bo_u88 x_ (v_u88 k x_)))
  | _, _ => none)
theorem of_u88 (k : Nat) (x_ : List Int) (r : R_u88) (h : f_u88 k x_ = some r) : CC Tryz.prog 83 (args_u88 x_) (bin_u88 x_) (res_u88 r) (bo_u88 x_ r) := by
  unfold f_u88 at h
  split at h
  · rename_i q
    cases h
    exact cc_sort_int Tryz.sort_int ⟨Tryz.f83, _, Tryz.func83, rfl, by kernel_rfl⟩ 3 x_ q
  · cases h
theorem cc_u88 {k : Nat} {x_ : List (I).T} (h : (f_u88 k x_).isSome = true) : C_u88 x_ (v_u88 k x_) := ccG (Φ := C_u88 x_) h (of_u88 k x_)
abbrev R_u95 : Type := List (T10).T × Int
def res_u95 (r : R_u95) : AV := .tup [.r (.ro T10 r.1), .r (.v (.int .i64 r.2))]
def bo_u95 (t_ : List (T10).T) (o_ : List (T10).T) (r : R_u95) : List (Nat × Blk) := []
def args_u95 (t_ : List (T10).T) (o_ : List (T10).T) : List AV := [.r (.ro T10 t_), .r (.ro T10 o_), .r (.v (.func (.func 67) #[] #[]))]
def bin_u95 (t_ : List (T10).T) (o_ : List (T10).T) : List Blk := []
abbrev C_u95 (t_ : List (T10).T) (o_ : List (T10).T) (r : R_u95) : Prop := CC Tryz.prog 66 (args_u95 t_ o_) (bin_u95 t_ o_) (res_u95 r) (bo_u95 t_ o_ r)
def st_u95_10 (y0 : List (T10).T) (y1 : List (T10).T) (y2 : Int) (y3 : Int) (y4 : List (I).T) (y5 : List (T10).T) : St := ⟨mkS 147 [(0, .r (.ro T10 y0)), (1, .r (.ro T10 y1)), (2, .r (.v (Value.func (Fn.func 67) #[] #[]))), (10, .own 1000000 0), (35, .own 1000001 0), (36, .r (.v (.int .i64 y2))), (37, .r (.v (.int .i64 y3)))], [(1000000, 0, .row 3 I y4), (1000001, 0, .row 72 T10 y5)]⟩
def st_u95_18 (y0 : List (T10).T) (y1 : List (T10).T) (y2 : Int) (y3 : Int) (y4 : Int) (y5 : Int) (y6 : List (RTy.int IntKind.i64).T) (y7 : List (T10).T) : St := ⟨mkS 147 [(0, .r (.ro T10 y0)), (1, .r (.ro T10 y1)), (2, .r (.v (Value.func (Fn.func 67) #[] #[]))), (10, .own 1000000 0), (13, .own 1000001 0), (14, .r (.v (.int .i64 y2))), (15, .r (.v (.int .i64 y3))), (51, .own 1000000 0), (52, .r (.v (.int .i64 y4))), (53, .r (.v (.int .i64 y5)))], [(1000000, 0, .row 3 ((RTy.int IntKind.i64)) y6), (1000001, 0, .row 72 T10 y7)]⟩
def st_u95_20 (y0 : List (T10).T) (y1 : List (T10).T) (y2 : Int) (y3 : Int) (y4 : Int) (y5 : Int) (y6 : Int) (y7 : Int) (y8 : List (RTy.int IntKind.i64).T) (y9 : List (T10).T) : St := ⟨mkS 147 [(0, .r (.ro T10 y0)), (1, .r (.ro T10 y1)), (2, .r (.v (Value.func (Fn.func 67) #[] #[]))), (10, .own 1000000 0), (13, .own 1000001 0), (14, .r (.v (.int .i64 y2))), (15, .r (.v (.int .i64 y3))), (16, .r (.v (.int .i64 y4))), (17, .r (.v (.int .i64 y5))), (51, .own 1000000 0), (52, .r (.v (.int .i64 y6))), (53, .r (.v (.int .i64 y7)))], [(1000000, 0, .row 3 ((RTy.int IntKind.i64)) y8), (1000001, 0, .row 72 T10 y9)]⟩
def st_u95_22 (y0 : List (T10).T) (y1 : List (T10).T) (y2 : Int) (y3 : Int) (y4 : Int) (y5 : Int) (y6 : Int) (y7 : Int) (y8 : List (RTy.int IntKind.i64).T) (y9 : List (T10).T) : St := ⟨mkS 147 [(0, .r (.ro T10 y0)), (1, .r (.ro T10 y1)), (2, .r (.v (Value.func (Fn.func 67) #[] #[]))), (10, .own 1000000 0), (13, .own 1000001 0), (14, .r (.v (.int .i64 y2))), (15, .r (.v (.int .i64 y3))), (16, .r (.v (.int .i64 y4))), (17, .r (.v (.int .i64 y5))), (51, .own 1000000 0), (52, .r (.v (.int .i64 y6))), (53, .r (.v (.int .i64 y7)))], [(1000000, 0, .row 3 ((RTy.int IntKind.i64)) y8), (1000001, 0, .row 72 T10 y9)]⟩
def st_u95_28 (y0 : List (T10).T) : St := ⟨mkS 147 [(13, .r (.ro T10 y0))], []⟩
mutual
def f_u95_10 (k : Nat) : Nat → List (T10).T → List (T10).T → Int → Int → List (I).T → List (T10).T → Option R_u95
  | 0, _, _, _, _, _, _ => none
  | j + 1, y0, y1, y2, y3, y4, y5 =>
  bif (decide (y3 < y2)) then
  if (0 ≤ y3) ∧ (y3 < (↑y5.length : Int)) then
  if ((y4.length + [(y5.getD y3.toNat T10.dflt).1, (y5.getD y3.toNat T10.dflt).2].length) * (8 : Nat) ≤ (140737488355328 : Nat)) then
  f_u95_10 k j y0 y1 y2 ((IntKind.i64.wrap (y3 + 1))) ((y4 ++ [(y5.getD y3.toNat T10.dflt).1, (y5.getD y3.toNat T10.dflt).2])) y5
  else none
  else none
  else
  if ((f_u88 k y4).isSome = true) then
  f_u95_18 k j y0 y1 0 0 ((↑ (List.length (v_u88 k y4)) : Int)) 0 ((v_u88 k y4)) ([])
  else none
def f_u95_18 (k : Nat) : Nat → List (T10).T → List (T10).T → Int → Int → Int → Int → List (RTy.int IntKind.i64).T → List (T10).T → Option R_u95
  | 0, _, _, _, _, _, _, _, _ => none
  | j + 1, y0, y1, y2, y3, y4, y5, y6, y7 =>
  bif (decide (y5 < y4)) then
  if (0 ≤ y5) ∧ (y5 < (↑y6.length : Int)) then
  f_u95_20 k j y0 y1 y2 y3 y5 ((y6.getD y5.toNat (RTy.int IntKind.i64).dflt)) y4 y5 y6 y7
  else none
  else
  f_u95_28 k j y7
def f_u95_20 (k : Nat) : Nat → List (T10).T → List (T10).T → Int → Int → Int → Int → Int → Int → List (RTy.int IntKind.i64).T → List (T10).T → Option R_u95
  | 0, _, _, _, _, _, _, _, _, _, _ => none
  | j + 1, y0, y1, y2, y3, y4, y5, y6, y7, y8, y9 =>
  if (decide (y2 < (↑y0.length : Int)) = true → 0 ≤ y2) ∧ (decide (y2 < (↑y0.length : Int)) = true → y2 < (↑y0.length : Int)) then
  bif (decide (y2 < (↑y0.length : Int)) && decide ((y0.getD y2.toNat T10.dflt).2 ≤ y5)) then
  f_u95_20 k j y0 y1 ((IntKind.i64.wrap (y2 + 1))) y3 y4 y5 y6 y7 y8 y9
  else
  f_u95_22 k j y0 y1 y2 y3 y4 y5 y6 y7 y8 y9
  else none
def f_u95_22 (k : Nat) : Nat → List (T10).T → List (T10).T → Int → Int → Int → Int → Int → Int → List (RTy.int IntKind.i64).T → List (T10).T → Option R_u95
  | 0, _, _, _, _, _, _, _, _, _, _ => none
  | j + 1, y0, y1, y2, y3, y4, y5, y6, y7, y8, y9 =>
  if (decide (y3 < (↑y1.length : Int)) = true → 0 ≤ y3) ∧ (decide (y3 < (↑y1.length : Int)) = true → y3 < (↑y1.length : Int)) then
  bif (decide (y3 < (↑y1.length : Int)) && decide ((y1.getD y3.toNat T10.dflt).2 ≤ y5)) then
  f_u95_22 k j y0 y1 y2 ((IntKind.i64.wrap (y3 + 1))) y4 y5 y6 y7 y8 y9
  else
  if ((IntKind.i64.wrap (y4 + (1 : Int)) == (↑y8.length : Int)) = false → (0 : Int) ≤ IntKind.i64.wrap (y4 + (1 : Int))) ∧ ((IntKind.i64.wrap (y4 + (1 : Int)) == (↑y8.length : Int)) = false → IntKind.i64.wrap (y4 + (1 : Int)) < (↑y8.length : Int)) then
  bif (IntKind.i64.wrap (y4 + (1 : Int)) == (↑y8.length : Int) || y8.getD (IntKind.i64.wrap (y4 + (1 : Int))).toNat (RTy.int IntKind.i64).dflt == y5) then
  f_u95_18 k j y0 y1 y2 y3 y6 ((IntKind.i64.wrap (y7 + 1))) y8 y9
  else
  if (decide (y2 < (↑y0.length : Int)) = true → 0 ≤ y2) ∧ (decide (y2 < (↑y0.length : Int)) = true → y2 < (↑y0.length : Int)) ∧ (decide (y3 < (↑y1.length : Int)) = true → 0 ≤ y3) ∧ (decide (y3 < (↑y1.length : Int)) = true → y3 < (↑y1.length : Int)) ∧ ((f_u91 k (decide (y2 < (↑y0.length : Int)) && decide ((y0.getD y2.toNat T10.dflt).1 ≤ y5)) (decide (y3 < (↑y1.length : Int)) && decide ((y1.getD y3.toNat T10.dflt).1 ≤ y5))).isSome = true) then
  bif (v_u91 k (decide (y2 < (↑y0.length : Int)) && decide ((y0.getD y2.toNat T10.dflt).1 ≤ y5)) (decide (y3 < (↑y1.length : Int)) && decide ((y1.getD y3.toNat T10.dflt).1 ≤ y5))) then
  if ((0 : Int) ≤ IntKind.i64.wrap (y4 + (1 : Int))) ∧ (IntKind.i64.wrap (y4 + (1 : Int)) < (↑y8.length : Int)) ∧ ((y9.length + [(y5, y8.getD (IntKind.i64.wrap (y4 + (1 : Int))).toNat (RTy.int IntKind.i64).dflt)].length) * (16 : Nat) ≤ (140737488355328 : Nat)) then
  f_u95_18 k j y0 y1 y2 y3 y6 ((IntKind.i64.wrap (y7 + 1))) y8 ((y9 ++ [(y5, y8.getD (IntKind.i64.wrap (y4 + 1)).toNat (RTy.int IntKind.i64).dflt)]))
  else none
  else
  f_u95_18 k j y0 y1 y2 y3 y6 ((IntKind.i64.wrap (y7 + 1))) y8 y9
  else none
  else none
  else none
def f_u95_28 (k : Nat) : Nat → List (T10).T → Option R_u95
  | 0, _ => none
  | j + 1, y0 =>
  if ((f_u93 k y0).isSome = true) then
  bif (decide ((↑ (List.length (v_u93 k y0)) : Int) > (256 : Int))) then
  some (([], 8))
  else
  some ((v_u93 k y0, 0))
  else none
end
def f_u95 (k : Nat) (t_ : List (T10).T) (o_ : List (T10).T) : Option R_u95 :=
  if ((f_u89 k t_).isSome = true) then
  bif (v_u89 k t_ != (0 : Int)) then
  some (([], v_u89 k t_))
  else
  if ((f_u89 k o_).isSome = true) then
  bif (v_u89 k o_ != (0 : Int)) then
  some (([], v_u89 k o_))
  else
  if ((f_u93 k t_).isSome = true) ∧ ((f_u93 k o_).isSome = true) then
  if ((f_u85 k [v_u93 k t_, v_u93 k o_]).isSome = true) then
  f_u95_10 k k ((v_u93 k t_)) ((v_u93 k o_)) ((↑ (List.length (v_u85 k [v_u93 k t_, v_u93 k o_])) : Int)) 0 ([]) ((v_u85 k [v_u93 k t_, v_u93 k o_]))
  else none
  else none
  else none
  else none
def v_u95 (k : Nat) (t_ : List (T10).T) (o_ : List (T10).T) : R_u95 := (f_u95 k t_ o_).getD ([], 0)
def ke_u95 (k : Nat) : Ke := (66, fun xs => match xs with
  | [_, _, .r (.v (.func (.func 67) _ _))] => some [false, false, false]
  | _ => none, fun xs bs => match xs, bs with
  | [.r (.ro tt__ qt_), .r (.ro to__ qo_), .r (.v (.func (.func 67) _ _))], [] => (castL tt__ T10 qt_).bind fun t_ => (castL to__ T10 qo_).bind fun o_ => some (.one (res_u95 (v_u95 k t_ o_), bo_u95 t_ o_ (v_u95 k t_ o_)))
  | _, _ => none)
def K_u95 (k : Nat) : Calld := mkK [ke_u89 k, ke_u93 k, ke_u85 k, ke_u88 k, ke_u91 k]
def cs_u95 : List (Nat × List Cmd) := [(10, [.row 10 3 I, .autoB [0, 1, 2, 10, 35, 36, 37] false []]), (18, [.row 13 72 T10, .autoB [0, 1, 2, 10, 13, 14, 15, 51, 52, 53] false []]), (20, [.autoB [0, 1, 2, 10, 13, 14, 15, 16, 17, 51, 52, 53] false []]), (22, [.autoB [0, 1, 2, 10, 13, 14, 15, 16, 17, 51, 52, 53] false []]), (28, [.frz 13 false (RTy.list T10), .autoB [13] false []])]
abbrev E_u95 (t_ : List (T10).T) (o_ : List (T10).T) (todo : List Item) (st : St) (o : Option R_u95) : Prop := ∀ r, o = some r → Ev Tryz.prog Tryz.f66 0 todo st (res_u95 r) (bo_u95 t_ o_ r)
theorem ev_u95 (k : Nat) (t_ : List (T10).T) (o_ : List (T10).T) : ∀ j, (∀ (y0 : List (T10).T) (y1 : List (T10).T) (y2 : Int) (y3 : Int) (y4 : List (I).T) (y5 : List (T10).T), E_u95 t_ o_ (placeAt Tryz.f66 10) (st_u95_10 y0 y1 y2 y3 y4 y5) (f_u95_10 k j y0 y1 y2 y3 y4 y5)) ∧ (∀ (y0 : List (T10).T) (y1 : List (T10).T) (y2 : Int) (y3 : Int) (y4 : Int) (y5 : Int) (y6 : List (RTy.int IntKind.i64).T) (y7 : List (T10).T), E_u95 t_ o_ (placeAt Tryz.f66 18) (st_u95_18 y0 y1 y2 y3 y4 y5 y6 y7) (f_u95_18 k j y0 y1 y2 y3 y4 y5 y6 y7)) ∧ (∀ (y0 : List (T10).T) (y1 : List (T10).T) (y2 : Int) (y3 : Int) (y4 : Int) (y5 : Int) (y6 : Int) (y7 : Int) (y8 : List (RTy.int IntKind.i64).T) (y9 : List (T10).T), E_u95 t_ o_ (placeAt Tryz.f66 20) (st_u95_20 y0 y1 y2 y3 y4 y5 y6 y7 y8 y9) (f_u95_20 k j y0 y1 y2 y3 y4 y5 y6 y7 y8 y9)) ∧ (∀ (y0 : List (T10).T) (y1 : List (T10).T) (y2 : Int) (y3 : Int) (y4 : Int) (y5 : Int) (y6 : Int) (y7 : Int) (y8 : List (RTy.int IntKind.i64).T) (y9 : List (T10).T), E_u95 t_ o_ (placeAt Tryz.f66 22) (st_u95_22 y0 y1 y2 y3 y4 y5 y6 y7 y8 y9) (f_u95_22 k j y0 y1 y2 y3 y4 y5 y6 y7 y8 y9)) ∧ (∀ (y0 : List (T10).T), E_u95 t_ o_ (placeAt Tryz.f66 28) (st_u95_28 y0) (f_u95_28 k j y0))
  | 0 => ⟨fun _ _ _ _ _ _ _ h => (nomatch h), fun _ _ _ _ _ _ _ _ _ h => (nomatch h), fun _ _ _ _ _ _ _ _ _ _ _ h => (nomatch h), fun _ _ _ _ _ _ _ _ _ _ _ h => (nomatch h), fun _ _ h => (nomatch h)⟩
  | j + 1 => by
    have ih := @ev_u95 k t_ o_ j
    refine ⟨?_, ?_, ?_, ?_, ?_⟩
    · intro y0 y1 y2 y3 y4 y5 r h
      rw [f_u95_10] at h
      exact go (K_u95 k) [28] cs_u95 [.frz 6 false (RTy.list T10), .autoB [6, 7] true []] (gT h (fun c h => gN2 h fun h => gN1 h id fun h => gC h 10 (ih.1 _ _ _ _ _ _ _)) fun c h => gN1 h (fun q => cc_u88 q) fun h => gC h 18 (ih.2.1 _ _ _ _ _ _ _ _ _)) (by kernel_rfl)
    · intro y0 y1 y2 y3 y4 y5 y6 y7 r h
      rw [f_u95_18] at h
      exact go (K_u95 k) [28] cs_u95 [.frz 6 false (RTy.list T10), .autoB [6, 7] true []] (gT h (fun c h => gN2 h fun h => gC h 20 (ih.2.2.1 _ _ _ _ _ _ _ _ _ _ _)) fun c h => gC h 28 (ih.2.2.2.2 _ _)) (by kernel_rfl)
    · intro y0 y1 y2 y3 y4 y5 y6 y7 y8 y9 r h
      rw [f_u95_20] at h
      exact go (K_u95 k) [28] cs_u95 [.frz 6 false (RTy.list T10), .autoB [6, 7] true []] (gN2 h fun h => gT h (fun c h => gC h 20 (ih.2.2.1 _ _ _ _ _ _ _ _ _ _ _)) fun c h => gC h 22 (ih.2.2.2.1 _ _ _ _ _ _ _ _ _ _ _)) (by kernel_rfl)
    · intro y0 y1 y2 y3 y4 y5 y6 y7 y8 y9 r h
      rw [f_u95_22] at h
      exact go (K_u95 k) [28] cs_u95 [.frz 6 false (RTy.list T10), .autoB [6, 7] true []] (gN2 h fun h => gT h (fun c h => gC h 22 (ih.2.2.2.1 _ _ _ _ _ _ _ _ _ _ _)) fun c h => gN2 h fun h => gT h (fun c h => gC h 18 (ih.2.1 _ _ _ _ _ _ _ _ _)) fun c h => gN h (fun q => conjC q.1 (conjC q.2.1 (conjC q.2.2.1 (conjC q.2.2.2.1 (conjC (cc_u91 q.2.2.2.2) conj0))))) fun h => gT h (fun c h => gN h (fun q => conjC q.1 (conjC q.2.1 (conjC q.2.2 conj0))) fun h => gC h 18 (ih.2.1 _ _ _ _ _ _ _ _ _)) fun c h => gC h 18 (ih.2.1 _ _ _ _ _ _ _ _ _)) (by kernel_rfl)
    · intro y0 r h
      rw [f_u95_28] at h
      exact go (K_u95 k) [28] cs_u95 [.frz 6 false (RTy.list T10), .autoB [6, 7] true []] (gN1 h (fun q => cc_u93 q) fun h => gT h (fun c h => gL h) fun c h => gL h) (by kernel_rfl)
theorem of_u95 (k : Nat) (t_ : List (T10).T) (o_ : List (T10).T) (r : R_u95) (h : f_u95 k t_ o_ = some r) : C_u95 t_ o_ r := by
  refine CC.of (fn := Tryz.f66) (by kernel_rfl) (by kernel_rfl) (by kernel_rfl) (by kernel_rfl) ?_
  unfold f_u95 at h
  exact go (K_u95 k) [28] cs_u95 [.frz 6 false (RTy.list T10), .autoB [6, 7] true []] (gN1 h (fun q => cc_u89 q) fun h => gT h (fun c h => gL h) fun c h => gN1 h (fun q => cc_u89 q) fun h => gT h (fun c h => gL h) fun c h => gN h (fun q => conjC (cc_u93 q.1) (conjC (cc_u93 q.2) conj0)) fun h => gN1 h (fun q => cc_u85 q) fun h => gC h 10 ((ev_u95 k t_ o_ k).1 _ _ _ _ _ _ _)) (by kernel_rfl)
theorem cc_u95 {k : Nat} {t_ : List (T10).T} {o_ : List (T10).T} (h : (f_u95 k t_ o_).isSome = true) : C_u95 t_ o_ (v_u95 k t_ o_) := ccG (Φ := C_u95 t_ o_) h (of_u95 k t_ o_)
abbrev R_u90 : Type := List (T10).T × Int
def res_u90 (r : R_u90) : AV := .tup [.r (.ro T10 r.1), .r (.v (.int .i64 r.2))]
def bo_u90 (l_ : List (T10).T) (r : R_u90) : List (Nat × Blk) := []
def args_u90 (l_ : List (T10).T) : List AV := [.r (.ro T10 l_)]
def bin_u90 (l_ : List (T10).T) : List Blk := []
abbrev C_u90 (l_ : List (T10).T) (r : R_u90) : Prop := CC Tryz.prog 46 (args_u90 l_) (bin_u90 l_) (res_u90 r) (bo_u90 l_ r)
def f_u90 (k : Nat) (l_ : List (T10).T) : Option R_u90 :=
  if ((f_u95 k l_ []).isSome = true) then
  some (((v_u95 k l_ []).1, (v_u95 k l_ []).2))
  else none
def v_u90 (k : Nat) (l_ : List (T10).T) : R_u90 := (f_u90 k l_).getD ([], 0)
def ke_u90 (k : Nat) : Ke := (46, fun xs => match xs with
  | [_] => some [false]
  | _ => none, fun xs bs => match xs, bs with
  | [.r (.ro tl__ ql_)], [] => (castL tl__ T10 ql_).bind fun l_ => some (.one (res_u90 (v_u90 k l_), bo_u90 l_ (v_u90 k l_)))
  | _, _ => none)
theorem of_u90 (k : Nat) (l_ : List (T10).T) (r : R_u90) (h : f_u90 k l_ = some r) : C_u90 l_ r := by
  refine CC.of (fn := Tryz.f46) (by kernel_rfl) (by kernel_rfl) (by kernel_rfl) (by kernel_rfl) ?_
  unfold f_u90 at h
  exact go (mkK [ke_u91 k, ke_u95 k]) [] [] [.frz 2 false (RTy.list T10), .autoB [2, 3] true []] (gN1 h (fun q => cc_u95 q) fun h => gL h) (by kernel_rfl)
theorem cc_u90 {k : Nat} {l_ : List (T10).T} (h : (f_u90 k l_).isSome = true) : C_u90 l_ (v_u90 k l_) := ccG (Φ := C_u90 l_) h (of_u90 k l_)
abbrev R_u21 : Type := List (T10).T × Int
def res_u21 (r : R_u21) : AV := .tup [.r (.ro T10 r.1), .r (.v (.int .i64 r.2))]
def bo_u21 (m_ : List (T0).T) (r : R_u21) : List (Nat × Blk) := []
def args_u21 (m_ : List (T0).T) : List AV := [.r (.ro T0 m_)]
def bin_u21 (m_ : List (T0).T) : List Blk := []
abbrev C_u21 (m_ : List (T0).T) (r : R_u21) : Prop := CC Tryz.prog 32 (args_u21 m_) (bin_u21 m_) (res_u21 r) (bo_u21 m_ r)
def st_u21_6 (y0 : List (T0).T) (y1 : Int) (y2 : Int) (y3 : List (T10).T) : St := ⟨mkS 29 [(5, .own 1000000 0), (13, .r (.ro T0 y0)), (14, .r (.v (.int .i64 y1))), (15, .r (.v (.int .i64 y2)))], [(1000000, 0, .row 72 T10 y3)]⟩
def st_u21_10 (y0 : List (T10).T) : St := ⟨mkS 29 [(5, .r (.ro T10 y0))], []⟩
mutual
def f_u21_6 (k : Nat) : Nat → List (T0).T → Int → Int → List (T10).T → Option R_u21
  | 0, _, _, _, _ => none
  | j + 1, y0, y1, y2, y3 =>
  bif (decide (y2 < y1)) then
  if (0 ≤ y2) ∧ (y2 < (↑y0.length : Int)) then
  if ((f_u30 k (y0.getD y2.toNat T0.dflt)).isSome = true) ∧ ((y3.length + [v_u30 k (y0.getD y2.toNat T0.dflt)].length) * (16 : Nat) ≤ (140737488355328 : Nat)) then
  f_u21_6 k j y0 y1 ((IntKind.i64.wrap (y2 + 1))) ((y3 ++ [v_u30 k (y0.getD y2.toNat T0.dflt)]))
  else none
  else none
  else
  f_u21_10 k j y3
def f_u21_10 (k : Nat) : Nat → List (T10).T → Option R_u21
  | 0, _ => none
  | j + 1, y0 =>
  if ((f_u90 k y0).isSome = true) then
  some (((v_u90 k y0).1, (v_u90 k y0).2))
  else none
end
def f_u21 (k : Nat) (m_ : List (T0).T) : Option R_u21 :=
  if ((f_u17 k m_).isSome = true) then
  bif (v_u17 k m_ != (0 : Int)) then
  some (([], v_u17 k m_))
  else
  f_u21_6 k k m_ ((↑m_.length : Int)) 0 ([])
  else none
def v_u21 (k : Nat) (m_ : List (T0).T) : R_u21 := (f_u21 k m_).getD ([], 0)
def ke_u21 (k : Nat) : Ke := (32, fun xs => match xs with
  | [_] => some [false]
  | _ => none, fun xs bs => match xs, bs with
  | [.r (.ro tm__ qm_)], [] => (castL tm__ T0 qm_).bind fun m_ => some (.one (res_u21 (v_u21 k m_), bo_u21 m_ (v_u21 k m_)))
  | _, _ => none)
def cs_u21 : List (Nat × List Cmd) := [(6, [.row 5 72 T10, .autoB [5, 13, 14, 15] false []]), (10, [.frz 5 false (RTy.list T10), .autoB [5] false []])]
abbrev E_u21 (m_ : List (T0).T) (todo : List Item) (st : St) (o : Option R_u21) : Prop := ∀ r, o = some r → Ev Tryz.prog Tryz.f32 0 todo st (res_u21 r) (bo_u21 m_ r)
theorem ev_u21 (k : Nat) (m_ : List (T0).T) : ∀ j, (∀ (y0 : List (T0).T) (y1 : Int) (y2 : Int) (y3 : List (T10).T), E_u21 m_ (placeAt Tryz.f32 6) (st_u21_6 y0 y1 y2 y3) (f_u21_6 k j y0 y1 y2 y3)) ∧ (∀ (y0 : List (T10).T), E_u21 m_ (placeAt Tryz.f32 10) (st_u21_10 y0) (f_u21_10 k j y0))
  | 0 => ⟨fun _ _ _ _ _ h => (nomatch h), fun _ _ h => (nomatch h)⟩
  | j + 1 => by
    have ih := @ev_u21 k m_ j
    refine ⟨?_, ?_⟩
    · intro y0 y1 y2 y3 r h
      rw [f_u21_6] at h
      exact go (mkK [ke_u17 k, ke_u30 k, ke_u90 k]) [10] cs_u21 [.frz 2 false (RTy.list T10), .autoB [2, 3] true []] (gT h (fun c h => gN2 h fun h => gN h (fun q => conjC (cc_u30 q.1) (conjC q.2 conj0)) fun h => gC h 6 (ih.1 _ _ _ _ _)) fun c h => gC h 10 (ih.2 _ _)) (by kernel_rfl)
    · intro y0 r h
      rw [f_u21_10] at h
      exact go (mkK [ke_u17 k, ke_u30 k, ke_u90 k]) [10] cs_u21 [.frz 2 false (RTy.list T10), .autoB [2, 3] true []] (gN1 h (fun q => cc_u90 q) fun h => gL h) (by kernel_rfl)
theorem of_u21 (k : Nat) (m_ : List (T0).T) (r : R_u21) (h : f_u21 k m_ = some r) : C_u21 m_ r := by
  refine CC.of (fn := Tryz.f32) (by kernel_rfl) (by kernel_rfl) (by kernel_rfl) (by kernel_rfl) ?_
  unfold f_u21 at h
  exact go (mkK [ke_u17 k, ke_u30 k, ke_u90 k]) [10] cs_u21 [.frz 2 false (RTy.list T10), .autoB [2, 3] true []] (gN1 h (fun q => cc_u17 q) fun h => gT h (fun c h => gL h) fun c h => gC h 6 ((ev_u21 k m_ k).1 _ _ _ _ _)) (by kernel_rfl)
theorem cc_u21 {k : Nat} {m_ : List (T0).T} (h : (f_u21 k m_).isSome = true) : C_u21 m_ (v_u21 k m_) := ccG (Φ := C_u21 m_) h (of_u21 k m_)
abbrev R_u92 : Type := Int × Int
def res_u92 (r : R_u92) : AV := .tup [.r (.v (.int .i64 r.1)), .r (.v (.int .i64 r.2))]
def bo_u92 (l_ : List (T10).T) (r : R_u92) : List (Nat × Blk) := []
def args_u92 (l_ : List (T10).T) : List AV := [.r (.ro T10 l_)]
def bin_u92 (l_ : List (T10).T) : List Blk := []
abbrev C_u92 (l_ : List (T10).T) (r : R_u92) : Prop := CC Tryz.prog 38 (args_u92 l_) (bin_u92 l_) (res_u92 r) (bo_u92 l_ r)
def st_u92_6 (y0 : Int) (y1 : List (T10).T) (y2 : Int) (y3 : Int) : St := ⟨mkS 29 [(5, .r (.v (.int .i64 y0))), (14, .r (.ro T10 y1)), (15, .r (.v (.int .i64 y2))), (16, .r (.v (.int .i64 y3)))], []⟩
def f_u92_6 (k : Nat) : Nat → Int → List (T10).T → Int → Int → Option R_u92
  | 0, _, _, _, _ => none
  | j + 1, y0, y1, y2, y3 =>
  bif (decide (y3 < y2)) then
  if (0 ≤ y3) ∧ (y3 < (↑y1.length : Int)) then
  f_u92_6 k j ((IntKind.i64.wrap (y0 + IntKind.i64.wrap ((y1.getD y3.toNat T10.dflt).2 - (y1.getD y3.toNat T10.dflt).1)))) y1 y2 ((IntKind.i64.wrap (y3 + 1)))
  else none
  else
  some ((y0, 0))
def f_u92 (k : Nat) (l_ : List (T10).T) : Option R_u92 :=
  if ((f_u89 k l_).isSome = true) then
  bif (v_u89 k l_ != (0 : Int)) then
  some ((0, v_u89 k l_))
  else
  if ((f_u93 k l_).isSome = true) then
  f_u92_6 k k 0 ((v_u93 k l_)) ((↑ (List.length (v_u93 k l_)) : Int)) 0
  else none
  else none
def v_u92 (k : Nat) (l_ : List (T10).T) : R_u92 := (f_u92 k l_).getD (0, 0)
def ke_u92 (k : Nat) : Ke := (38, fun xs => match xs with
  | [_] => some [false]
  | _ => none, fun xs bs => match xs, bs with
  | [.r (.ro tl__ ql_)], [] => (castL tl__ T10 ql_).bind fun l_ => some (.one (res_u92 (v_u92 k l_), bo_u92 l_ (v_u92 k l_)))
  | _, _ => none)
def cs_u92 : List (Nat × List Cmd) := [(6, [.autoB [5, 14, 15, 16] false []])]
abbrev E_u92 (l_ : List (T10).T) (todo : List Item) (st : St) (o : Option R_u92) : Prop := ∀ r, o = some r → Ev Tryz.prog Tryz.f38 0 todo st (res_u92 r) (bo_u92 l_ r)
theorem ev_u92 (k : Nat) (l_ : List (T10).T) : ∀ j, (∀ (y0 : Int) (y1 : List (T10).T) (y2 : Int) (y3 : Int), E_u92 l_ (placeAt Tryz.f38 6) (st_u92_6 y0 y1 y2 y3) (f_u92_6 k j y0 y1 y2 y3))
  | 0 => fun _ _ _ _ _ h => (nomatch h)
  | j + 1 => by
    have ih := @ev_u92 k l_ j
    · intro y0 y1 y2 y3 r h
      rw [f_u92_6] at h
      exact go (mkK [ke_u89 k, ke_u93 k]) [] cs_u92 [.autoB [2, 3] true []] (gT h (fun c h => gN2 h fun h => gC h 6 (ih _ _ _ _ _)) fun c h => gL h) (by kernel_rfl)
theorem of_u92 (k : Nat) (l_ : List (T10).T) (r : R_u92) (h : f_u92 k l_ = some r) : C_u92 l_ r := by
  refine CC.of (fn := Tryz.f38) (by kernel_rfl) (by kernel_rfl) (by kernel_rfl) (by kernel_rfl) ?_
  unfold f_u92 at h
  exact go (mkK [ke_u89 k, ke_u93 k]) [] cs_u92 [.autoB [2, 3] true []] (gN1 h (fun q => cc_u89 q) fun h => gT h (fun c h => gL h) fun c h => gN1 h (fun q => cc_u93 q) fun h => gC h 6 ((ev_u92 k l_ k) _ _ _ _ _)) (by kernel_rfl)
theorem cc_u92 {k : Nat} {l_ : List (T10).T} (h : (f_u92 k l_).isSome = true) : C_u92 l_ (v_u92 k l_) := ccG (Φ := C_u92 l_) h (of_u92 k l_)
abbrev R_u24 : Type := Bool
def res_u24 (r : R_u24) : AV := .r (.v (.bool r))
def bo_u24 (m_ : List (T0).T) (r : R_u24) : List (Nat × Blk) := []
def args_u24 (m_ : List (T0).T) : List AV := [.r (.ro T0 m_)]
def bin_u24 (m_ : List (T0).T) : List Blk := []
abbrev C_u24 (m_ : List (T0).T) (r : R_u24) : Prop := CC Tryz.prog 91 (args_u24 m_) (bin_u24 m_) (res_u24 r) (bo_u24 m_ r)
def f_u24 (k : Nat) (m_ : List (T0).T) : Option R_u24 :=
  if ((f_u21 k m_).isSome = true) then
  bif ((v_u21 k m_).2 != (0 : Int)) then
  some false
  else
  if ((f_u92 k (v_u21 k m_).1).isSome = true) then
  bif ((v_u92 k (v_u21 k m_).1).2 == (0 : Int)) then
  if (((v_u92 k (v_u21 k m_).1).2 == (0 : Int)) = true) ∧ ((f_u31 k m_).isSome = true) then
  some (true && (v_u92 k (v_u21 k m_).1).1 == v_u31 k m_)
  else none
  else
  if (((v_u92 k (v_u21 k m_).1).2 == (0 : Int)) = false) then
  some false
  else none
  else none
  else none
def v_u24 (k : Nat) (m_ : List (T0).T) : R_u24 := (f_u24 k m_).getD false
def ke_u24 (k : Nat) : Ke := (91, fun xs => match xs with
  | [_] => some [false]
  | _ => none, fun xs bs => match xs, bs with
  | [.r (.ro tm__ qm_)], [] => (castL tm__ T0 qm_).bind fun m_ => some (.one (res_u24 (v_u24 k m_), bo_u24 m_ (v_u24 k m_)))
  | _, _ => none)
theorem of_u24 (k : Nat) (m_ : List (T0).T) (r : R_u24) (h : f_u24 k m_ = some r) : C_u24 m_ r := by
  refine CC.of (fn := Tryz.f91) (by kernel_rfl) (by kernel_rfl) (by kernel_rfl) (by kernel_rfl) ?_
  unfold f_u24 at h
  exact go (mkK [ke_u31 k, ke_u21 k, ke_u92 k]) [] [] [.autoB [2] true []] (gN1 h (fun q => cc_u21 q) fun h => gT h (fun c h => gL h) fun c h => gN1 h (fun q => cc_u92 q) fun h => gT h (fun c h => gN h (fun q => conjC q.1 (conjC (cc_u31 q.2) conj0)) fun h => gL h) fun c h => gN1 h id fun h => gL h) (by kernel_rfl)
theorem cc_u24 {k : Nat} {m_ : List (T0).T} (h : (f_u24 k m_).isSome = true) : C_u24 m_ (v_u24 k m_) := ccG (Φ := C_u24 m_) h (of_u24 k m_)
abbrev R_u59 : Type := Int
def res_u59 (r : R_u59) : AV := .r (.v (.int .i64 r))
def bo_u59 (m_ : List (T0).T) (r : R_u59) : List (Nat × Blk) := []
def args_u59 (m_ : List (T0).T) : List AV := [.r (.ro T0 m_)]
def bin_u59 (m_ : List (T0).T) : List Blk := []
abbrev C_u59 (m_ : List (T0).T) (r : R_u59) : Prop := CC Tryz.prog 56 (args_u59 m_) (bin_u59 m_) (res_u59 r) (bo_u59 m_ r)
def st_u59_3 (y0 : List (T0).T) (y1 : Int) (y2 : Int) : St := ⟨mkS 19 [(0, .r (.ro T0 y0)), (3, .r (.v (.int .i64 y1))), (4, .r (.v (.int .i64 y2)))], []⟩
def f_u59_3 (k : Nat) : Nat → List (T0).T → Int → Int → Option R_u59
  | 0, _, _, _ => none
  | j + 1, y0, y1, y2 =>
  bif (decide (y2 < (↑y0.length : Int))) then
  if (0 ≤ y2) ∧ (y2 < (↑y0.length : Int)) then
  f_u59_3 k j y0 ((IntKind.i64.wrap (y1 + (y0.getD y2.toNat T0.dflt).2.1))) ((IntKind.i64.wrap (y2 + 1)))
  else none
  else
  some y1
def f_u59 (k : Nat) (m_ : List (T0).T) : Option R_u59 :=
  f_u59_3 k k m_ 0 0
def v_u59 (k : Nat) (m_ : List (T0).T) : R_u59 := (f_u59 k m_).getD 0
def ke_u59 (k : Nat) : Ke := (56, fun xs => match xs with
  | [_] => some [false]
  | _ => none, fun xs bs => match xs, bs with
  | [.r (.ro tm__ qm_)], [] => (castL tm__ T0 qm_).bind fun m_ => some (.one (res_u59 (v_u59 k m_), bo_u59 m_ (v_u59 k m_)))
  | _, _ => none)
def cs_u59 : List (Nat × List Cmd) := [(3, [.autoB [0, 3, 4] false []])]
abbrev E_u59 (m_ : List (T0).T) (todo : List Item) (st : St) (o : Option R_u59) : Prop := ∀ r, o = some r → Ev Tryz.prog Tryz.f56 0 todo st (res_u59 r) (bo_u59 m_ r)
theorem ev_u59 (k : Nat) (m_ : List (T0).T) : ∀ j, (∀ (y0 : List (T0).T) (y1 : Int) (y2 : Int), E_u59 m_ (placeAt Tryz.f56 3) (st_u59_3 y0 y1 y2) (f_u59_3 k j y0 y1 y2))
  | 0 => fun _ _ _ _ h => nomatch h
  | j + 1 => by
    have ih := @ev_u59 k m_ j
    · intro y0 y1 y2 r h
      rw [f_u59_3] at h
      exact go (mkK []) [] cs_u59 [.autoB [2] true []] (gT h (fun c h => gN2 h fun h => gC h 3 (ih _ _ _ _)) fun c h => gL h) (by kernel_rfl)
theorem of_u59 (k : Nat) (m_ : List (T0).T) (r : R_u59) (h : f_u59 k m_ = some r) : C_u59 m_ r := by
  refine CC.of (fn := Tryz.f56) (by kernel_rfl) (by kernel_rfl) (by kernel_rfl) (by kernel_rfl) ?_
  unfold f_u59 at h
  exact go (mkK []) [] cs_u59 [.autoB [2] true []] (gC h 3 ((ev_u59 k m_ k) _ _ _ _)) (by kernel_rfl)
theorem cc_u59 {k : Nat} {m_ : List (T0).T} (h : (f_u59 k m_).isSome = true) : C_u59 m_ (v_u59 k m_) := ccG (Φ := C_u59 m_) h (of_u59 k m_)
abbrev R_u57 : Type := Bool
def res_u57 (r : R_u57) : AV := .r (.v (.bool r))
def bo_u57 (r_ : T0.T) (r : R_u57) : List (Nat × Blk) := []
def args_u57 (r_ : T0.T) : List AV := [.agg (rvs (enc T0 r_))]
def bin_u57 (r_ : T0.T) : List Blk := []
abbrev C_u57 (r_ : T0.T) (r : R_u57) : Prop := CC Tryz.prog 72 (args_u57 r_) (bin_u57 r_) (res_u57 r) (bo_u57 r_ r)
def f_u57 (k : Nat) (r_ : T0.T) : Option R_u57 :=
  bif (decide (r_.2.1 < (1 : Int)) || decide (r_.2.1 > (17179869184 : Int)) || decide (r_.1 < (0 : Int)) || decide (r_.1 ≥ (17179869184 : Int))) then
  some false
  else
  bif r_.2.2 then
  some (decide (IntKind.i64.wrap (IntKind.i64.wrap (r_.1 - r_.2.1) + 1) ≥ 0))
  else
  some (decide (IntKind.i64.wrap (r_.1 + r_.2.1) ≤ 17179869184))
def v_u57 (k : Nat) (r_ : T0.T) : R_u57 := (f_u57 k r_).getD false
def ke_u57 (k : Nat) : Ke := (72, fun xs => match xs with
  | [_] => some [false]
  | _ => none, fun xs bs => match xs, bs with
  | [.agg qr_], [] => (decS [] T0 qr_).bind fun r_ => some (.one (res_u57 (v_u57 k r_), bo_u57 r_ (v_u57 k r_)))
  | _, _ => none)
theorem of_u57 (k : Nat) (r_ : T0.T) (r : R_u57) (h : f_u57 k r_ = some r) : C_u57 r_ r := by
  refine CC.of (fn := Tryz.f72) (by kernel_rfl) (by kernel_rfl) (by kernel_rfl) (by kernel_rfl) ?_
  unfold f_u57 at h
  exact go (mkK []) [] [] [.autoB [2] true []] (gT h (fun c h => gL h) fun c h => gT h (fun c h => gL h) fun c h => gL h) (by kernel_rfl)
theorem cc_u57 {k : Nat} {r_ : T0.T} (h : (f_u57 k r_).isSome = true) : C_u57 r_ (v_u57 k r_) := ccG (Φ := C_u57 r_) h (of_u57 k r_)
abbrev R_u49 : Type := Int
def res_u49 (r : R_u49) : AV := .r (.v (.int .i64 r))
def bo_u49 (m_ : List (T0).T) (r : R_u49) : List (Nat × Blk) := []
def args_u49 (m_ : List (T0).T) : List AV := [.r (.ro T0 m_)]
def bin_u49 (m_ : List (T0).T) : List Blk := []
abbrev C_u49 (m_ : List (T0).T) (r : R_u49) : Prop := CC Tryz.prog 50 (args_u49 m_) (bin_u49 m_) (res_u49 r) (bo_u49 m_ r)
def st_u49_4 (y0 : List (T0).T) (y1 : Int) : St := ⟨mkS 22 [(0, .r (.ro T0 y0)), (3, .r (.v (.int .i64 y1)))], []⟩
def f_u49_4 (k : Nat) : Nat → List (T0).T → Int → Option R_u49
  | 0, _, _ => none
  | j + 1, y0, y1 =>
  bif (decide (y1 < (↑y0.length : Int))) then
  if (0 ≤ y1) ∧ (y1 < (↑y0.length : Int)) ∧ ((f_u57 k (y0.getD y1.toNat T0.dflt)).isSome = true) then
  bif (!v_u57 k (y0.getD y1.toNat T0.dflt)) then
  some 1
  else
  f_u49_4 k j y0 ((IntKind.i64.wrap (y1 + 1)))
  else none
  else
  if ((f_u59 k y0).isSome = true) then
  bif (decide (v_u59 k y0 > (17179869184 : Int))) then
  some 21
  else
  some 0
  else none
def f_u49 (k : Nat) (m_ : List (T0).T) : Option R_u49 :=
  bif (decide ((↑m_.length : Int) > (256 : Int))) then
  some 8
  else
  f_u49_4 k k m_ 0
def v_u49 (k : Nat) (m_ : List (T0).T) : R_u49 := (f_u49 k m_).getD 0
def ke_u49 (k : Nat) : Ke := (50, fun xs => match xs with
  | [_] => some [false]
  | _ => none, fun xs bs => match xs, bs with
  | [.r (.ro tm__ qm_)], [] => (castL tm__ T0 qm_).bind fun m_ => some (.one (res_u49 (v_u49 k m_), bo_u49 m_ (v_u49 k m_)))
  | _, _ => none)
def cs_u49 : List (Nat × List Cmd) := [(4, [.autoB [0, 3] false []])]
abbrev E_u49 (m_ : List (T0).T) (todo : List Item) (st : St) (o : Option R_u49) : Prop := ∀ r, o = some r → Ev Tryz.prog Tryz.f50 0 todo st (res_u49 r) (bo_u49 m_ r)
theorem ev_u49 (k : Nat) (m_ : List (T0).T) : ∀ j, (∀ (y0 : List (T0).T) (y1 : Int), E_u49 m_ (placeAt Tryz.f50 4) (st_u49_4 y0 y1) (f_u49_4 k j y0 y1))
  | 0 => fun _ _ _ h => nomatch h
  | j + 1 => by
    have ih := @ev_u49 k m_ j
    · intro y0 y1 r h
      rw [f_u49_4] at h
      exact go (mkK [ke_u59 k, ke_u57 k]) [] cs_u49 [.autoB [2] true []] (gT h (fun c h => gN h (fun q => conjC q.1 (conjC q.2.1 (conjC (cc_u57 q.2.2) conj0))) fun h => gT h (fun c h => gL h) fun c h => gC h 4 (ih _ _ _)) fun c h => gN1 h (fun q => cc_u59 q) fun h => gT h (fun c h => gL h) fun c h => gL h) (by kernel_rfl)
theorem of_u49 (k : Nat) (m_ : List (T0).T) (r : R_u49) (h : f_u49 k m_ = some r) : C_u49 m_ r := by
  refine CC.of (fn := Tryz.f50) (by kernel_rfl) (by kernel_rfl) (by kernel_rfl) (by kernel_rfl) ?_
  unfold f_u49 at h
  exact go (mkK [ke_u59 k, ke_u57 k]) [] cs_u49 [.autoB [2] true []] (gT h (fun c h => gL h) fun c h => gC h 4 ((ev_u49 k m_ k) _ _ _)) (by kernel_rfl)
theorem cc_u49 {k : Nat} {m_ : List (T0).T} (h : (f_u49 k m_).isSome = true) : C_u49 m_ (v_u49 k m_) := ccG (Φ := C_u49 m_) h (of_u49 k m_)
abbrev R_u58 : Type := Int
def res_u58 (r : R_u58) : AV := .r (.v (.int .i64 r))
def bo_u58 (r_ : T0.T) (k_ : Int) (r : R_u58) : List (Nat × Blk) := []
def args_u58 (r_ : T0.T) (k_ : Int) : List AV := [.agg (rvs (enc T0 r_)), .r (.v (.int .i64 k_))]
def bin_u58 (r_ : T0.T) (k_ : Int) : List Blk := []
abbrev C_u58 (r_ : T0.T) (k_ : Int) (r : R_u58) : Prop := CC Tryz.prog 59 (args_u58 r_ k_) (bin_u58 r_ k_) (res_u58 r) (bo_u58 r_ k_ r)
def f_u58 (k : Nat) (r_ : T0.T) (k_ : Int) : Option R_u58 :=
  bif r_.2.2 then
  some (IntKind.i64.wrap (r_.1 - k_))
  else
  some (IntKind.i64.wrap (r_.1 + k_))
def v_u58 (k : Nat) (r_ : T0.T) (k_ : Int) : R_u58 := (f_u58 k r_ k_).getD 0
def ke_u58 (k : Nat) : Ke := (59, fun xs => match xs with
  | [_, _] => some [false, false]
  | _ => none, fun xs bs => match xs, bs with
  | [.agg qr_, .r (.v (.int .i64 k_))], [] => (decS [] T0 qr_).bind fun r_ => some (.one (res_u58 (v_u58 k r_ k_), bo_u58 r_ k_ (v_u58 k r_ k_)))
  | _, _ => none)
theorem of_u58 (k : Nat) (r_ : T0.T) (k_ : Int) (r : R_u58) (h : f_u58 k r_ k_ = some r) : C_u58 r_ k_ r := by
  refine CC.of (fn := Tryz.f59) (by kernel_rfl) (by kernel_rfl) (by kernel_rfl) (by kernel_rfl) ?_
  unfold f_u58 at h
  exact go (mkK []) [] [] [.autoB [4] true []] (gT h (fun c h => gL h) fun c h => gL h) (by kernel_rfl)
theorem cc_u58 {k : Nat} {r_ : T0.T} {k_ : Int} (h : (f_u58 k r_ k_).isSome = true) : C_u58 r_ k_ (v_u58 k r_ k_) := ccG (Φ := C_u58 r_ k_) h (of_u58 k r_ k_)
abbrev R_u56 : Type := T0.T
def res_u56 (r : R_u56) : AV := .agg (rvs (enc T0 r))
def bo_u56 (r_ : T0.T) (k_ : Int) (n_ : Int) (r : R_u56) : List (Nat × Blk) := []
def args_u56 (r_ : T0.T) (k_ : Int) (n_ : Int) : List AV := [.agg (rvs (enc T0 r_)), .r (.v (.int .i64 k_)), .r (.v (.int .i64 n_))]
def bin_u56 (r_ : T0.T) (k_ : Int) (n_ : Int) : List Blk := []
abbrev C_u56 (r_ : T0.T) (k_ : Int) (n_ : Int) (r : R_u56) : Prop := CC Tryz.prog 58 (args_u56 r_ k_ n_) (bin_u56 r_ k_ n_) (res_u56 r) (bo_u56 r_ k_ n_ r)
def f_u56 (k : Nat) (r_ : T0.T) (k_ : Int) (n_ : Int) : Option R_u56 :=
  if ((f_u58 k r_ k_).isSome = true) then
  some ((v_u58 k r_ k_, (n_, r_.2.2 && decide (n_ > 1))))
  else none
def v_u56 (k : Nat) (r_ : T0.T) (k_ : Int) (n_ : Int) : R_u56 := (f_u56 k r_ k_ n_).getD (T0).dflt
def ke_u56 (k : Nat) : Ke := (58, fun xs => match xs with
  | [_, _, _] => some [false, false, false]
  | _ => none, fun xs bs => match xs, bs with
  | [.agg qr_, .r (.v (.int .i64 k_)), .r (.v (.int .i64 n_))], [] => (decS [] T0 qr_).bind fun r_ => some (.one (res_u56 (v_u56 k r_ k_ n_), bo_u56 r_ k_ n_ (v_u56 k r_ k_ n_)))
  | _, _ => none)
theorem of_u56 (k : Nat) (r_ : T0.T) (k_ : Int) (n_ : Int) (r : R_u56) (h : f_u56 k r_ k_ n_ = some r) : C_u56 r_ k_ n_ r := by
  refine CC.of (fn := Tryz.f58) (by kernel_rfl) (by kernel_rfl) (by kernel_rfl) (by kernel_rfl) ?_
  unfold f_u56 at h
  exact go (mkK [ke_u58 k]) [] [] [.autoB [6] true []] (gN1 h (fun q => cc_u58 q) fun h => gL h) (by kernel_rfl)
theorem cc_u56 {k : Nat} {r_ : T0.T} {k_ : Int} {n_ : Int} (h : (f_u56 k r_ k_ n_).isSome = true) : C_u56 r_ k_ n_ (v_u56 k r_ k_ n_) := ccG (Φ := C_u56 r_ k_ n_) h (of_u56 k r_ k_ n_)
abbrev R_u61 : Type := List (T0).T
def res_u61 (r : R_u61) : AV := .r (.ro T0 r)
def bo_u61 (m_ : List (T0).T) (r_ : T0.T) (r : R_u61) : List (Nat × Blk) := []
def args_u61 (m_ : List (T0).T) (r_ : T0.T) : List AV := [.r (.ro T0 m_), .agg (rvs (enc T0 r_))]
def bin_u61 (m_ : List (T0).T) (r_ : T0.T) : List Blk := []
abbrev C_u61 (m_ : List (T0).T) (r_ : T0.T) (r : R_u61) : Prop := CC Tryz.prog 57 (args_u61 m_ r_) (bin_u61 m_ r_) (res_u61 r) (bo_u61 m_ r_ r)
def st_u61_2 (y0 : T0.T) (y1 : List (T0).T) : St := ⟨mkS 101 [(3, .ptr 1000000 0 0), (5, .own 1000001 0)], [(1000000, 0, .var 90 (rvs (enc T0 y0))), (1000001, 0, .row 90 T0 y1)]⟩
def f_u61_2 (k : Nat) : Nat → T0.T → List (T0).T → Option R_u61
  | 0, _, _ => none
  | j + 1, y0, y1 =>
  bif (decide (y0.2.1 > (0 : Int))) then
  bif (decide (IntKind.i64.wrap ((↑y1.length : Int) - (1 : Int)) < (0 : Int))) then
  if ((f_u56 k y0 0 y0.2.1).isSome = true) ∧ ((y1.length + [v_u56 k y0 (0 : Int) y0.2.1].length) * (24 : Nat) ≤ (140737488355328 : Nat)) then
  some (y1 ++ [v_u56 k y0 0 y0.2.1])
  else none
  else
  if ((0 : Int) ≤ IntKind.i64.wrap ((↑y1.length : Int) - (1 : Int))) ∧ (IntKind.i64.wrap ((↑y1.length : Int) - (1 : Int)) < (↑y1.length : Int)) then
  if ((f_u58 k (y1.getD (IntKind.i64.wrap ((↑y1.length : Int) - 1)).toNat T0.dflt) (IntKind.i64.wrap ((y1.getD (IntKind.i64.wrap ((↑y1.length : Int) - 1)).toNat T0.dflt).2.1 - 1))).isSome = true) then
  bif (IntKind.i64.wrap (y0.1 - v_u58 k (y1.getD (IntKind.i64.wrap ((↑y1.length : Int) - (1 : Int))).toNat T0.dflt) (IntKind.i64.wrap ((y1.getD (IntKind.i64.wrap ((↑y1.length : Int) - (1 : Int))).toNat T0.dflt).2.1 - (1 : Int)))) != (1 : Int) && IntKind.i64.wrap (y0.1 - v_u58 k (y1.getD (IntKind.i64.wrap ((↑y1.length : Int) - (1 : Int))).toNat T0.dflt) (IntKind.i64.wrap ((y1.getD (IntKind.i64.wrap ((↑y1.length : Int) - (1 : Int))).toNat T0.dflt).2.1 - (1 : Int)))) != (-1 : Int) || decide ((y1.getD (IntKind.i64.wrap ((↑y1.length : Int) - (1 : Int))).toNat T0.dflt).2.1 > (1 : Int)) && (! (y1.getD (IntKind.i64.wrap ((↑y1.length : Int) - (1 : Int))).toNat T0.dflt).2.2 == (IntKind.i64.wrap (y0.1 - v_u58 k (y1.getD (IntKind.i64.wrap ((↑y1.length : Int) - (1 : Int))).toNat T0.dflt) (IntKind.i64.wrap ((y1.getD (IntKind.i64.wrap ((↑y1.length : Int) - (1 : Int))).toNat T0.dflt).2.1 - (1 : Int)))) == (-1 : Int)))) then
  if ((f_u56 k y0 0 y0.2.1).isSome = true) ∧ ((y1.length + [v_u56 k y0 (0 : Int) y0.2.1].length) * (24 : Nat) ≤ (140737488355328 : Nat)) then
  some (y1 ++ [v_u56 k y0 0 y0.2.1])
  else none
  else
  bif (decide (y0.2.1 > (1 : Int)) && (!y0.2.2 == (IntKind.i64.wrap (y0.1 - v_u58 k (y1.getD (IntKind.i64.wrap ((↑y1.length : Int) - (1 : Int))).toNat T0.dflt) (IntKind.i64.wrap ((y1.getD (IntKind.i64.wrap ((↑y1.length : Int) - (1 : Int))).toNat T0.dflt).2.1 - (1 : Int)))) == (-1 : Int)))) then
  if ((0 : Int) ≤ IntKind.i64.wrap ((↑y1.length : Int) - (1 : Int))) ∧ (IntKind.i64.wrap ((↑y1.length : Int) - (1 : Int)) < (↑y1.length : Int)) then
  bif ((1 : Int) == y0.2.1) then
  some (y1.set (IntKind.i64.wrap ((↑y1.length : Int) - 1)).toNat ((y1.getD (IntKind.i64.wrap ((↑y1.length : Int) - 1)).toNat T0.dflt).1, IntKind.i64.wrap ((y1.getD (IntKind.i64.wrap ((↑y1.length : Int) - 1)).toNat T0.dflt).2.1 + 1), IntKind.i64.wrap (y0.1 - v_u58 k (y1.getD (IntKind.i64.wrap ((↑y1.length : Int) - 1)).toNat T0.dflt) (IntKind.i64.wrap ((y1.getD (IntKind.i64.wrap ((↑y1.length : Int) - 1)).toNat T0.dflt).2.1 - 1))) == (-1)))
  else
  if ((f_u56 k y0 1 (IntKind.i64.wrap (y0.2.1 - 1))).isSome = true) then
  f_u61_2 k j ((v_u56 k y0 1 (IntKind.i64.wrap (y0.2.1 - 1)))) ((y1.set (IntKind.i64.wrap ((↑y1.length : Int) - 1)).toNat ((y1.getD (IntKind.i64.wrap ((↑y1.length : Int) - 1)).toNat T0.dflt).1, IntKind.i64.wrap ((y1.getD (IntKind.i64.wrap ((↑y1.length : Int) - 1)).toNat T0.dflt).2.1 + 1), IntKind.i64.wrap (y0.1 - v_u58 k (y1.getD (IntKind.i64.wrap ((↑y1.length : Int) - 1)).toNat T0.dflt) (IntKind.i64.wrap ((y1.getD (IntKind.i64.wrap ((↑y1.length : Int) - 1)).toNat T0.dflt).2.1 - 1))) == (-1))))
  else none
  else none
  else
  if ((0 : Int) ≤ IntKind.i64.wrap ((↑y1.length : Int) - (1 : Int))) ∧ (IntKind.i64.wrap ((↑y1.length : Int) - (1 : Int)) < (↑y1.length : Int)) then
  bif (y0.2.1 == y0.2.1) then
  some (y1.set (IntKind.i64.wrap ((↑y1.length : Int) - 1)).toNat ((y1.getD (IntKind.i64.wrap ((↑y1.length : Int) - 1)).toNat T0.dflt).1, IntKind.i64.wrap ((y1.getD (IntKind.i64.wrap ((↑y1.length : Int) - 1)).toNat T0.dflt).2.1 + y0.2.1), IntKind.i64.wrap (y0.1 - v_u58 k (y1.getD (IntKind.i64.wrap ((↑y1.length : Int) - 1)).toNat T0.dflt) (IntKind.i64.wrap ((y1.getD (IntKind.i64.wrap ((↑y1.length : Int) - 1)).toNat T0.dflt).2.1 - 1))) == (-1)))
  else
  if ((f_u56 k y0 y0.2.1 (IntKind.i64.wrap (y0.2.1 - y0.2.1))).isSome = true) then
  f_u61_2 k j ((v_u56 k y0 y0.2.1 (IntKind.i64.wrap (y0.2.1 - y0.2.1)))) ((y1.set (IntKind.i64.wrap ((↑y1.length : Int) - 1)).toNat ((y1.getD (IntKind.i64.wrap ((↑y1.length : Int) - 1)).toNat T0.dflt).1, IntKind.i64.wrap ((y1.getD (IntKind.i64.wrap ((↑y1.length : Int) - 1)).toNat T0.dflt).2.1 + y0.2.1), IntKind.i64.wrap (y0.1 - v_u58 k (y1.getD (IntKind.i64.wrap ((↑y1.length : Int) - 1)).toNat T0.dflt) (IntKind.i64.wrap ((y1.getD (IntKind.i64.wrap ((↑y1.length : Int) - 1)).toNat T0.dflt).2.1 - 1))) == (-1))))
  else none
  else none
  else none
  else none
  else
  some y1
def f_u61 (k : Nat) (m_ : List (T0).T) (r_ : T0.T) : Option R_u61 :=
  if (((0 : Nat) + m_.length) * (24 : Nat) ≤ (140737488355328 : Nat)) then
  f_u61_2 k k r_ (([] ++ m_))
  else none
def v_u61 (k : Nat) (m_ : List (T0).T) (r_ : T0.T) : R_u61 := (f_u61 k m_ r_).getD []
def ke_u61 (k : Nat) : Ke := (57, fun xs => match xs with
  | [_, _] => some [false, false]
  | _ => none, fun xs bs => match xs, bs with
  | [.r (.ro tm__ qm_), .agg qr_], [] => (castL tm__ T0 qm_).bind fun m_ => (decS [] T0 qr_).bind fun r_ => some (.one (res_u61 (v_u61 k m_ r_), bo_u61 m_ r_ (v_u61 k m_ r_)))
  | _, _ => none)
def cs_u61 : List (Nat × List Cmd) := [(2, [.autoB [3, 5] false []])]
abbrev E_u61 (m_ : List (T0).T) (r_ : T0.T) (todo : List Item) (st : St) (o : Option R_u61) : Prop := ∀ r, o = some r → Ev Tryz.prog Tryz.f57 0 todo st (res_u61 r) (bo_u61 m_ r_ r)
theorem ev_u61 (k : Nat) (m_ : List (T0).T) (r_ : T0.T) : ∀ j, (∀ (y0 : T0.T) (y1 : List (T0).T), E_u61 m_ r_ (placeAt Tryz.f57 2) (st_u61_2 y0 y1) (f_u61_2 k j y0 y1))
  | 0 => fun _ _ _ h => nomatch h
  | j + 1 => by
    have ih := @ev_u61 k m_ r_ j
    · intro y0 y1 r h
      rw [f_u61_2] at h
      exact go (mkK [ke_u58 k, ke_u56 k]) [] cs_u61 [.frz 4 false (RTy.list T0), .autoB [4] true []] (gT h (fun c h => gT h (fun c h => gN h (fun q => conjC (cc_u56 q.1) (conjC q.2 conj0)) fun h => gL h) fun c h => gN2 h fun h => gN1 h (fun q => cc_u58 q) fun h => gT h (fun c h => gN h (fun q => conjC (cc_u56 q.1) (conjC q.2 conj0)) fun h => gL h) fun c h => gT h (fun c h => gN2 h fun h => gT h (fun c h => gL h) fun c h => gN1 h (fun q => cc_u56 q) fun h => gC h 2 (ih _ _ _)) fun c h => gN2 h fun h => gT h (fun c h => gL h) fun c h => gN1 h (fun q => cc_u56 q) fun h => gC h 2 (ih _ _ _)) fun c h => gL h) (by kernel_rfl)
theorem of_u61 (k : Nat) (m_ : List (T0).T) (r_ : T0.T) (r : R_u61) (h : f_u61 k m_ r_ = some r) : C_u61 m_ r_ r := by
  refine CC.of (fn := Tryz.f57) (by kernel_rfl) (by kernel_rfl) (by kernel_rfl) (by kernel_rfl) ?_
  unfold f_u61 at h
  exact go (mkK [ke_u58 k, ke_u56 k]) [] cs_u61 [.frz 4 false (RTy.list T0), .autoB [4] true []] (gN1 h id fun h => gC h 2 ((ev_u61 k m_ r_ k) _ _ _)) (by kernel_rfl)
theorem cc_u61 {k : Nat} {m_ : List (T0).T} {r_ : T0.T} (h : (f_u61 k m_ r_).isSome = true) : C_u61 m_ r_ (v_u61 k m_ r_) := ccG (Φ := C_u61 m_ r_) h (of_u61 k m_ r_)
abbrev R_u62 : Type := Int × Int
def res_u62 (r : R_u62) : AV := .tup [.r (.v (.int .i64 r.1)), .r (.v (.int .i64 r.2))]
def bo_u62 (m_ : List (T0).T) (x_ : Int) (r : R_u62) : List (Nat × Blk) := []
def args_u62 (m_ : List (T0).T) (x_ : Int) : List AV := [.r (.ro T0 m_), .r (.v (.int .i64 x_))]
def bin_u62 (m_ : List (T0).T) (x_ : Int) : List Blk := []
abbrev C_u62 (m_ : List (T0).T) (x_ : Int) (r : R_u62) : Prop := CC Tryz.prog 70 (args_u62 m_ x_) (bin_u62 m_ x_) (res_u62 r) (bo_u62 m_ x_ r)
def st_u62_2 (y0 : List (T0).T) (y1 : Int) (y2 : Int) : St := ⟨mkS 33 [(0, .r (.ro T0 y0)), (1, .r (.v (.int .i64 y1))), (6, .r (.v (.int .i64 y2)))], []⟩
def f_u62_2 (k : Nat) : Nat → List (T0).T → Int → Int → Option R_u62
  | 0, _, _, _ => none
  | j + 1, y0, y1, y2 =>
  bif (decide (y2 < (↑y0.length : Int)) && decide (y1 ≥ (0 : Int))) then
  if (0 ≤ y2) ∧ (y2 < (↑y0.length : Int)) then
  bif (decide (y1 < (y0.getD y2.toNat T0.dflt).2.1)) then
  some ((y2, y1))
  else
  if (0 ≤ y2) ∧ (y2 < (↑y0.length : Int)) then
  f_u62_2 k j y0 ((IntKind.i64.wrap (y1 - (y0.getD y2.toNat T0.dflt).2.1))) ((IntKind.i64.wrap (y2 + 1)))
  else none
  else none
  else
  some ((-1, 0))
def f_u62 (k : Nat) (m_ : List (T0).T) (x_ : Int) : Option R_u62 :=
  f_u62_2 k k m_ x_ 0
def v_u62 (k : Nat) (m_ : List (T0).T) (x_ : Int) : R_u62 := (f_u62 k m_ x_).getD (0, 0)
def ke_u62 (k : Nat) : Ke := (70, fun xs => match xs with
  | [_, _] => some [false, false]
  | _ => none, fun xs bs => match xs, bs with
  | [.r (.ro tm__ qm_), .r (.v (.int .i64 x_))], [] => (castL tm__ T0 qm_).bind fun m_ => some (.one (res_u62 (v_u62 k m_ x_), bo_u62 m_ x_ (v_u62 k m_ x_)))
  | _, _ => none)
def cs_u62 : List (Nat × List Cmd) := [(2, [.autoB [0, 1, 6] false []])]
abbrev E_u62 (m_ : List (T0).T) (x_ : Int) (todo : List Item) (st : St) (o : Option R_u62) : Prop := ∀ r, o = some r → Ev Tryz.prog Tryz.f70 0 todo st (res_u62 r) (bo_u62 m_ x_ r)
theorem ev_u62 (k : Nat) (m_ : List (T0).T) (x_ : Int) : ∀ j, (∀ (y0 : List (T0).T) (y1 : Int) (y2 : Int), E_u62 m_ x_ (placeAt Tryz.f70 2) (st_u62_2 y0 y1 y2) (f_u62_2 k j y0 y1 y2))
  | 0 => fun _ _ _ _ h => nomatch h
  | j + 1 => by
    have ih := @ev_u62 k m_ x_ j
    · intro y0 y1 y2 r h
      rw [f_u62_2] at h
      exact go (mkK []) [] cs_u62 [.autoB [4, 5] true []] (gT h (fun c h => gN2 h fun h => gT h (fun c h => gL h) fun c h => gN2 h fun h => gC h 2 (ih _ _ _ _)) fun c h => gL h) (by kernel_rfl)
theorem of_u62 (k : Nat) (m_ : List (T0).T) (x_ : Int) (r : R_u62) (h : f_u62 k m_ x_ = some r) : C_u62 m_ x_ r := by
  refine CC.of (fn := Tryz.f70) (by kernel_rfl) (by kernel_rfl) (by kernel_rfl) (by kernel_rfl) ?_
  unfold f_u62 at h
  exact go (mkK []) [] cs_u62 [.autoB [4, 5] true []] (gC h 2 ((ev_u62 k m_ x_ k) _ _ _ _)) (by kernel_rfl)
theorem cc_u62 {k : Nat} {m_ : List (T0).T} {x_ : Int} (h : (f_u62 k m_ x_).isSome = true) : C_u62 m_ x_ (v_u62 k m_ x_) := ccG (Φ := C_u62 m_ x_) h (of_u62 k m_ x_)
abbrev R_u60 : Type := List (T0).T × Int
def res_u60 (r : R_u60) : AV := .tup [.r (.ro T0 r.1), .r (.v (.int .i64 r.2))]
def bo_u60 (m_ : List (T0).T) (r : R_u60) : List (Nat × Blk) := []
def args_u60 (m_ : List (T0).T) : List AV := [.r (.ro T0 m_)]
def bin_u60 (m_ : List (T0).T) : List Blk := []
abbrev C_u60 (m_ : List (T0).T) (r : R_u60) : Prop := CC Tryz.prog 71 (args_u60 m_) (bin_u60 m_) (res_u60 r) (bo_u60 m_ r)
def f_u60 (k : Nat) (m_ : List (T0).T) : Option R_u60 :=
  bif (decide ((↑m_.length : Int) > (256 : Int))) then
  some (([], 8))
  else
  some ((m_, 0))
def v_u60 (k : Nat) (m_ : List (T0).T) : R_u60 := (f_u60 k m_).getD ([], 0)
def ke_u60 (k : Nat) : Ke := (71, fun xs => match xs with
  | [_] => some [false]
  | _ => none, fun xs bs => match xs, bs with
  | [.r (.ro tm__ qm_)], [] => (castL tm__ T0 qm_).bind fun m_ => some (.one (res_u60 (v_u60 k m_), bo_u60 m_ (v_u60 k m_)))
  | _, _ => none)
theorem of_u60 (k : Nat) (m_ : List (T0).T) (r : R_u60) (h : f_u60 k m_ = some r) : C_u60 m_ r := by
  refine CC.of (fn := Tryz.f71) (by kernel_rfl) (by kernel_rfl) (by kernel_rfl) (by kernel_rfl) ?_
  unfold f_u60 at h
  exact go (mkK []) [] [] [.frz 2 false (RTy.list T0), .autoB [2, 3] true []] (gT h (fun c h => gL h) fun c h => gL h) (by kernel_rfl)
theorem cc_u60 {k : Nat} {m_ : List (T0).T} (h : (f_u60 k m_).isSome = true) : C_u60 m_ (v_u60 k m_) := ccG (Φ := C_u60 m_) h (of_u60 k m_)
abbrev R_u50 : Type := List (T0).T × Int
def res_u50 (r : R_u50) : AV := .tup [.r (.ro T0 r.1), .r (.v (.int .i64 r.2))]
def bo_u50 (inner_ : List (T0).T) (outer_ : List (T0).T) (r : R_u50) : List (Nat × Blk) := []
def args_u50 (inner_ : List (T0).T) (outer_ : List (T0).T) : List AV := [.r (.ro T0 inner_), .r (.ro T0 outer_)]
def bin_u50 (inner_ : List (T0).T) (outer_ : List (T0).T) : List Blk := []
abbrev C_u50 (inner_ : List (T0).T) (outer_ : List (T0).T) (r : R_u50) : Prop := CC Tryz.prog 49 (args_u50 inner_ outer_) (bin_u50 inner_ outer_) (res_u50 r) (bo_u50 inner_ outer_ r)
def st_u50_9 (y0 : List (T0).T) (y1 : List (T0).T) (y2 : List (T0).T) (y3 : Int) : St := ⟨mkS 101 [(0, .r (.ro T0 y0)), (1, .r (.ro T0 y1)), (8, .r (.ro T0 y2)), (9, .r (.v (.int .i64 y3)))], []⟩
def st_u50_12 (y0 : List (T0).T) (y1 : List (T0).T) (y2 : List (T0).T) (y3 : Int) (y4 : T0.T) : St := ⟨mkS 101 [(0, .r (.ro T0 y0)), (1, .r (.ro T0 y1)), (8, .r (.ro T0 y2)), (9, .r (.v (.int .i64 y3))), (10, .ptr 1000000 0 0)], [(1000000, 0, .var 90 (rvs (enc T0 y4)))]⟩
mutual
def f_u50_9 (k : Nat) : Nat → List (T0).T → List (T0).T → List (T0).T → Int → Option R_u50
  | 0, _, _, _, _ => none
  | j + 1, y0, y1, y2, y3 =>
  bif (decide (y3 < (↑y0.length : Int))) then
  if (0 ≤ y3) ∧ (y3 < (↑y0.length : Int)) then
  f_u50_12 k j y0 y1 y2 y3 ((y0.getD y3.toNat T0.dflt))
  else none
  else
  if ((f_u60 k y2).isSome = true) then
  some (((v_u60 k y2).1, (v_u60 k y2).2))
  else none
def f_u50_12 (k : Nat) : Nat → List (T0).T → List (T0).T → List (T0).T → Int → T0.T → Option R_u50
  | 0, _, _, _, _, _ => none
  | j + 1, y0, y1, y2, y3, y4 =>
  bif (decide (y4.2.1 > (0 : Int))) then
  if ((f_u62 k y1 y4.1).isSome = true) then
  bif (decide ((v_u62 k y1 y4.1).1 < (0 : Int))) then
  some (([], 21))
  else
  if ((0 : Int) ≤ (v_u62 k y1 y4.1).1) ∧ ((v_u62 k y1 y4.1).1 < (↑y1.length : Int)) then
  bif y4.2.2 then
  if ((f_u58 k (y1.getD (v_u62 k y1 y4.1).1.toNat T0.dflt) (v_u62 k y1 y4.1).2).isSome = true) ∧ ((f_u61 k y2 (v_u58 k (y1.getD (v_u62 k y1 y4.1).1.toNat T0.dflt) (v_u62 k y1 y4.1).2, if IntKind.i64.wrap ((v_u62 k y1 y4.1).2 + 1) < y4.2.1 then IntKind.i64.wrap ((v_u62 k y1 y4.1).2 + 1) else y4.2.1, ! (y1.getD (v_u62 k y1 y4.1).1.toNat T0.dflt).2.2 && decide ((if IntKind.i64.wrap ((v_u62 k y1 y4.1).2 + 1) < y4.2.1 then IntKind.i64.wrap ((v_u62 k y1 y4.1).2 + 1) else y4.2.1) > 1))).isSome = true) then
  bif ((if IntKind.i64.wrap ((v_u62 k y1 y4.1).2 + (1 : Int)) < y4.2.1 then IntKind.i64.wrap ((v_u62 k y1 y4.1).2 + (1 : Int)) else y4.2.1) == y4.2.1) then
  f_u50_9 k j y0 y1 ((v_u61 k y2 (v_u58 k (y1.getD (v_u62 k y1 y4.1).1.toNat T0.dflt) (v_u62 k y1 y4.1).2, if IntKind.i64.wrap ((v_u62 k y1 y4.1).2 + 1) < y4.2.1 then IntKind.i64.wrap ((v_u62 k y1 y4.1).2 + 1) else y4.2.1, ! (y1.getD (v_u62 k y1 y4.1).1.toNat T0.dflt).2.2 && decide ((if IntKind.i64.wrap ((v_u62 k y1 y4.1).2 + 1) < y4.2.1 then IntKind.i64.wrap ((v_u62 k y1 y4.1).2 + 1) else y4.2.1) > 1)))) ((IntKind.i64.wrap (y3 + 1)))
  else
  if ((f_u58 k y4 (if IntKind.i64.wrap ((v_u62 k y1 y4.1).2 + 1) < y4.2.1 then IntKind.i64.wrap ((v_u62 k y1 y4.1).2 + 1) else y4.2.1)).isSome = true) then
  f_u50_12 k j y0 y1 ((v_u61 k y2 (v_u58 k (y1.getD (v_u62 k y1 y4.1).1.toNat T0.dflt) (v_u62 k y1 y4.1).2, if IntKind.i64.wrap ((v_u62 k y1 y4.1).2 + 1) < y4.2.1 then IntKind.i64.wrap ((v_u62 k y1 y4.1).2 + 1) else y4.2.1, ! (y1.getD (v_u62 k y1 y4.1).1.toNat T0.dflt).2.2 && decide ((if IntKind.i64.wrap ((v_u62 k y1 y4.1).2 + 1) < y4.2.1 then IntKind.i64.wrap ((v_u62 k y1 y4.1).2 + 1) else y4.2.1) > 1)))) y3 ((v_u58 k y4 (if IntKind.i64.wrap ((v_u62 k y1 y4.1).2 + 1) < y4.2.1 then IntKind.i64.wrap ((v_u62 k y1 y4.1).2 + 1) else y4.2.1), (IntKind.i64.wrap (y4.2.1 - if IntKind.i64.wrap ((v_u62 k y1 y4.1).2 + 1) < y4.2.1 then IntKind.i64.wrap ((v_u62 k y1 y4.1).2 + 1) else y4.2.1), y4.2.2)))
  else none
  else none
  else
  if ((f_u58 k (y1.getD (v_u62 k y1 y4.1).1.toNat T0.dflt) (v_u62 k y1 y4.1).2).isSome = true) ∧ ((f_u61 k y2 (v_u58 k (y1.getD (v_u62 k y1 y4.1).1.toNat T0.dflt) (v_u62 k y1 y4.1).2, if IntKind.i64.wrap ((y1.getD (v_u62 k y1 y4.1).1.toNat T0.dflt).2.1 - (v_u62 k y1 y4.1).2) < y4.2.1 then IntKind.i64.wrap ((y1.getD (v_u62 k y1 y4.1).1.toNat T0.dflt).2.1 - (v_u62 k y1 y4.1).2) else y4.2.1, (y1.getD (v_u62 k y1 y4.1).1.toNat T0.dflt).2.2 && decide ((if IntKind.i64.wrap ((y1.getD (v_u62 k y1 y4.1).1.toNat T0.dflt).2.1 - (v_u62 k y1 y4.1).2) < y4.2.1 then IntKind.i64.wrap ((y1.getD (v_u62 k y1 y4.1).1.toNat T0.dflt).2.1 - (v_u62 k y1 y4.1).2) else y4.2.1) > 1))).isSome = true) then
  bif ((if IntKind.i64.wrap ((y1.getD (v_u62 k y1 y4.1).1.toNat T0.dflt).2.1 - (v_u62 k y1 y4.1).2) < y4.2.1 then IntKind.i64.wrap ((y1.getD (v_u62 k y1 y4.1).1.toNat T0.dflt).2.1 - (v_u62 k y1 y4.1).2) else y4.2.1) == y4.2.1) then
  f_u50_9 k j y0 y1 ((v_u61 k y2 (v_u58 k (y1.getD (v_u62 k y1 y4.1).1.toNat T0.dflt) (v_u62 k y1 y4.1).2, if IntKind.i64.wrap ((y1.getD (v_u62 k y1 y4.1).1.toNat T0.dflt).2.1 - (v_u62 k y1 y4.1).2) < y4.2.1 then IntKind.i64.wrap ((y1.getD (v_u62 k y1 y4.1).1.toNat T0.dflt).2.1 - (v_u62 k y1 y4.1).2) else y4.2.1, (y1.getD (v_u62 k y1 y4.1).1.toNat T0.dflt).2.2 && decide ((if IntKind.i64.wrap ((y1.getD (v_u62 k y1 y4.1).1.toNat T0.dflt).2.1 - (v_u62 k y1 y4.1).2) < y4.2.1 then IntKind.i64.wrap ((y1.getD (v_u62 k y1 y4.1).1.toNat T0.dflt).2.1 - (v_u62 k y1 y4.1).2) else y4.2.1) > 1)))) ((IntKind.i64.wrap (y3 + 1)))
  else
  if ((f_u58 k y4 (if IntKind.i64.wrap ((y1.getD (v_u62 k y1 y4.1).1.toNat T0.dflt).2.1 - (v_u62 k y1 y4.1).2) < y4.2.1 then IntKind.i64.wrap ((y1.getD (v_u62 k y1 y4.1).1.toNat T0.dflt).2.1 - (v_u62 k y1 y4.1).2) else y4.2.1)).isSome = true) then
  f_u50_12 k j y0 y1 ((v_u61 k y2 (v_u58 k (y1.getD (v_u62 k y1 y4.1).1.toNat T0.dflt) (v_u62 k y1 y4.1).2, if IntKind.i64.wrap ((y1.getD (v_u62 k y1 y4.1).1.toNat T0.dflt).2.1 - (v_u62 k y1 y4.1).2) < y4.2.1 then IntKind.i64.wrap ((y1.getD (v_u62 k y1 y4.1).1.toNat T0.dflt).2.1 - (v_u62 k y1 y4.1).2) else y4.2.1, (y1.getD (v_u62 k y1 y4.1).1.toNat T0.dflt).2.2 && decide ((if IntKind.i64.wrap ((y1.getD (v_u62 k y1 y4.1).1.toNat T0.dflt).2.1 - (v_u62 k y1 y4.1).2) < y4.2.1 then IntKind.i64.wrap ((y1.getD (v_u62 k y1 y4.1).1.toNat T0.dflt).2.1 - (v_u62 k y1 y4.1).2) else y4.2.1) > 1)))) y3 ((v_u58 k y4 (if IntKind.i64.wrap ((y1.getD (v_u62 k y1 y4.1).1.toNat T0.dflt).2.1 - (v_u62 k y1 y4.1).2) < y4.2.1 then IntKind.i64.wrap ((y1.getD (v_u62 k y1 y4.1).1.toNat T0.dflt).2.1 - (v_u62 k y1 y4.1).2) else y4.2.1), (IntKind.i64.wrap (y4.2.1 - if IntKind.i64.wrap ((y1.getD (v_u62 k y1 y4.1).1.toNat T0.dflt).2.1 - (v_u62 k y1 y4.1).2) < y4.2.1 then IntKind.i64.wrap ((y1.getD (v_u62 k y1 y4.1).1.toNat T0.dflt).2.1 - (v_u62 k y1 y4.1).2) else y4.2.1), y4.2.2)))
  else none
  else none
  else none
  else none
  else
  f_u50_9 k j y0 y1 y2 ((IntKind.i64.wrap (y3 + 1)))
end
def f_u50 (k : Nat) (inner_ : List (T0).T) (outer_ : List (T0).T) : Option R_u50 :=
  if ((f_u49 k inner_).isSome = true) then
  bif (v_u49 k inner_ != (0 : Int)) then
  some (([], v_u49 k inner_))
  else
  if ((f_u49 k outer_).isSome = true) then
  bif (v_u49 k outer_ != (0 : Int)) then
  some (([], v_u49 k outer_))
  else
  f_u50_9 k k inner_ outer_ ([]) 0
  else none
  else none
def v_u50 (k : Nat) (inner_ : List (T0).T) (outer_ : List (T0).T) : R_u50 := (f_u50 k inner_ outer_).getD ([], 0)
def ke_u50 (k : Nat) : Ke := (49, fun xs => match xs with
  | [_, _] => some [false, false]
  | _ => none, fun xs bs => match xs, bs with
  | [.r (.ro tinner__ qinner_), .r (.ro touter__ qouter_)], [] => (castL tinner__ T0 qinner_).bind fun inner_ => (castL touter__ T0 qouter_).bind fun outer_ => some (.one (res_u50 (v_u50 k inner_ outer_), bo_u50 inner_ outer_ (v_u50 k inner_ outer_)))
  | _, _ => none)
def K_u50 (k : Nat) : Calld := mkK [ke_u49 k, ke_u58 k, ke_u61 k, ke_u62 k, ke_u60 k]
def cs_u50 : List (Nat × List Cmd) := [(9, [.frz 8 false (RTy.list T0), .autoB [0, 1, 8, 9] false []]), (12, [.autoB [0, 1, 8, 9, 10] false []])]
abbrev E_u50 (inner_ : List (T0).T) (outer_ : List (T0).T) (todo : List Item) (st : St) (o : Option R_u50) : Prop := ∀ r, o = some r → Ev Tryz.prog Tryz.f49 0 todo st (res_u50 r) (bo_u50 inner_ outer_ r)
theorem ev_u50 (k : Nat) (inner_ : List (T0).T) (outer_ : List (T0).T) : ∀ j, (∀ (y0 : List (T0).T) (y1 : List (T0).T) (y2 : List (T0).T) (y3 : Int), E_u50 inner_ outer_ (placeAt Tryz.f49 9) (st_u50_9 y0 y1 y2 y3) (f_u50_9 k j y0 y1 y2 y3)) ∧ (∀ (y0 : List (T0).T) (y1 : List (T0).T) (y2 : List (T0).T) (y3 : Int) (y4 : T0.T), E_u50 inner_ outer_ (placeAt Tryz.f49 12) (st_u50_12 y0 y1 y2 y3 y4) (f_u50_12 k j y0 y1 y2 y3 y4))
  | 0 => ⟨fun _ _ _ _ _ h => (nomatch h), fun _ _ _ _ _ _ h => (nomatch h)⟩
  | j + 1 => by
    have ih := @ev_u50 k inner_ outer_ j
    refine ⟨?_, ?_⟩
    · intro y0 y1 y2 y3 r h
      rw [f_u50_9] at h
      exact go (K_u50 k) [] cs_u50 [.frz 4 false (RTy.list T0), .autoB [4, 5] true []] (gT h (fun c h => gN2 h fun h => gC h 12 (ih.2 _ _ _ _ _ _)) fun c h => gN1 h (fun q => cc_u60 q) fun h => gL h) (by kernel_rfl)
    · intro y0 y1 y2 y3 y4 r h
      rw [f_u50_12] at h
      exact go (K_u50 k) [] cs_u50 [.frz 4 false (RTy.list T0), .autoB [4, 5] true []] (gT h (fun c h => gN1 h (fun q => cc_u62 q) fun h => gT h (fun c h => gL h) fun c h => gN2 h fun h => gT h (fun c h => gN h (fun q => conjC (cc_u58 q.1) (conjC (cc_u61 q.2) conj0)) fun h => gT h (fun c h => gC h 9 (ih.1 _ _ _ _ _)) fun c h => gN1 h (fun q => cc_u58 q) fun h => gC h 12 (ih.2 _ _ _ _ _ _)) fun c h => gN h (fun q => conjC (cc_u58 q.1) (conjC (cc_u61 q.2) conj0)) fun h => gT h (fun c h => gC h 9 (ih.1 _ _ _ _ _)) fun c h => gN1 h (fun q => cc_u58 q) fun h => gC h 12 (ih.2 _ _ _ _ _ _)) fun c h => gC h 9 (ih.1 _ _ _ _ _)) (by kernel_rfl)
theorem of_u50 (k : Nat) (inner_ : List (T0).T) (outer_ : List (T0).T) (r : R_u50) (h : f_u50 k inner_ outer_ = some r) : C_u50 inner_ outer_ r := by
  refine CC.of (fn := Tryz.f49) (by kernel_rfl) (by kernel_rfl) (by kernel_rfl) (by kernel_rfl) ?_
  unfold f_u50 at h
  exact go (K_u50 k) [] cs_u50 [.frz 4 false (RTy.list T0), .autoB [4, 5] true []] (gN1 h (fun q => cc_u49 q) fun h => gT h (fun c h => gL h) fun c h => gN1 h (fun q => cc_u49 q) fun h => gT h (fun c h => gL h) fun c h => gC h 9 ((ev_u50 k inner_ outer_ k).1 _ _ _ _ _)) (by kernel_rfl)
theorem cc_u50 {k : Nat} {inner_ : List (T0).T} {outer_ : List (T0).T} (h : (f_u50 k inner_ outer_).isSome = true) : C_u50 inner_ outer_ (v_u50 k inner_ outer_) := ccG (Φ := C_u50 inner_ outer_) h (of_u50 k inner_ outer_)
abbrev R_u41 : Type := Int
def res_u41 (r : R_u41) : AV := .r (.v (.int .i64 r))
def bo_u41 (l_ : List (T10).T) (r : R_u41) : List (Nat × Blk) := []
def args_u41 (l_ : List (T10).T) : List AV := [.r (.ro T10 l_)]
def bin_u41 (l_ : List (T10).T) : List Blk := []
abbrev C_u41 (l_ : List (T10).T) (r : R_u41) : Prop := CC Tryz.prog 86 (args_u41 l_) (bin_u41 l_) (res_u41 r) (bo_u41 l_ r)
def st_u41_4 (y0 : List (T10).T) (y1 : Int) : St := ⟨mkS 40 [(0, .r (.ro T10 y0)), (3, .r (.v (.int .i64 y1)))], []⟩
def f_u41_4 (k : Nat) : Nat → List (T10).T → Int → Option R_u41
  | 0, _, _ => none
  | j + 1, y0, y1 =>
  bif (decide (y1 < (↑y0.length : Int))) then
  if (0 ≤ y1) ∧ (y1 < (↑y0.length : Int)) ∧ (decide ((y0.getD y1.toNat T10.dflt).1 < (0 : Int)) = false → 0 ≤ y1) ∧ (decide ((y0.getD y1.toNat T10.dflt).1 < (0 : Int)) = false → y1 < (↑y0.length : Int)) ∧ (decide ((y0.getD y1.toNat T10.dflt).1 < (0 : Int)) = false → 0 ≤ y1) ∧ (decide ((y0.getD y1.toNat T10.dflt).1 < (0 : Int)) = false → y1 < (↑y0.length : Int)) ∧ ((decide ((y0.getD y1.toNat T10.dflt).1 < (0 : Int)) || decide ((y0.getD y1.toNat T10.dflt).1 > (y0.getD y1.toNat T10.dflt).2)) = false → 0 ≤ y1) ∧ ((decide ((y0.getD y1.toNat T10.dflt).1 < (0 : Int)) || decide ((y0.getD y1.toNat T10.dflt).1 > (y0.getD y1.toNat T10.dflt).2)) = false → y1 < (↑y0.length : Int)) then
  bif (decide ((y0.getD y1.toNat T10.dflt).1 < (0 : Int)) || decide ((y0.getD y1.toNat T10.dflt).1 > (y0.getD y1.toNat T10.dflt).2) || decide ((y0.getD y1.toNat T10.dflt).2 > (17179869184 : Int))) then
  some 1
  else
  f_u41_4 k j y0 ((IntKind.i64.wrap (y1 + 1)))
  else none
  else
  some 0
def f_u41 (k : Nat) (l_ : List (T10).T) : Option R_u41 :=
  bif (decide ((↑l_.length : Int) > (256 : Int))) then
  some 8
  else
  f_u41_4 k k l_ 0
def v_u41 (k : Nat) (l_ : List (T10).T) : R_u41 := (f_u41 k l_).getD 0
def ke_u41 (k : Nat) : Ke := (86, fun xs => match xs with
  | [_] => some [false]
  | _ => none, fun xs bs => match xs, bs with
  | [.r (.ro tl__ ql_)], [] => (castL tl__ T10 ql_).bind fun l_ => some (.one (res_u41 (v_u41 k l_), bo_u41 l_ (v_u41 k l_)))
  | _, _ => none)
def cs_u41 : List (Nat × List Cmd) := [(4, [.autoB [0, 3] false []])]
abbrev E_u41 (l_ : List (T10).T) (todo : List Item) (st : St) (o : Option R_u41) : Prop := ∀ r, o = some r → Ev Tryz.prog Tryz.f86 0 todo st (res_u41 r) (bo_u41 l_ r)
theorem ev_u41 (k : Nat) (l_ : List (T10).T) : ∀ j, (∀ (y0 : List (T10).T) (y1 : Int), E_u41 l_ (placeAt Tryz.f86 4) (st_u41_4 y0 y1) (f_u41_4 k j y0 y1))
  | 0 => fun _ _ _ h => nomatch h
  | j + 1 => by
    have ih := @ev_u41 k l_ j
    · intro y0 y1 r h
      rw [f_u41_4] at h
      exact go (mkK []) [] cs_u41 [.autoB [2] true []] (gT h (fun c h => gN h (fun q => conjC q.1 (conjC q.2.1 (conjC q.2.2.1 (conjC q.2.2.2.1 (conjC q.2.2.2.2.1 (conjC q.2.2.2.2.2.1 (conjC q.2.2.2.2.2.2.1 (conjC q.2.2.2.2.2.2.2 conj0)))))))) fun h => gT h (fun c h => gL h) fun c h => gC h 4 (ih _ _ _)) fun c h => gL h) (by kernel_rfl)
theorem of_u41 (k : Nat) (l_ : List (T10).T) (r : R_u41) (h : f_u41 k l_ = some r) : C_u41 l_ r := by
  refine CC.of (fn := Tryz.f86) (by kernel_rfl) (by kernel_rfl) (by kernel_rfl) (by kernel_rfl) ?_
  unfold f_u41 at h
  exact go (mkK []) [] cs_u41 [.autoB [2] true []] (gT h (fun c h => gL h) fun c h => gC h 4 ((ev_u41 k l_ k) _ _ _)) (by kernel_rfl)
theorem cc_u41 {k : Nat} {l_ : List (T10).T} (h : (f_u41 k l_).isSome = true) : C_u41 l_ (v_u41 k l_) := ccG (Φ := C_u41 l_) h (of_u41 k l_)
abbrev R_u48 : Type := List (I).T
def res_u48 (r : R_u48) : AV := .r (.ro I r)
def bo_u48 (l_ : List (I).T) (n_ : Int) (r : R_u48) : List (Nat × Blk) := []
def args_u48 (l_ : List (I).T) (n_ : Int) : List AV := [.r (.ro I l_), .r (.v (.int .i64 n_))]
def bin_u48 (l_ : List (I).T) (n_ : Int) : List Blk := []
abbrev C_u48 (l_ : List (I).T) (n_ : Int) (r : R_u48) : Prop := CC Tryz.prog 119 (args_u48 l_ n_) (bin_u48 l_ n_) (res_u48 r) (bo_u48 l_ n_ r)
def st_u48_2 (y0 : List (I).T) (y1 : Int) (y2 : Int) : St := ⟨mkS 48 [(0, .r (.ro I y0)), (1, .r (.v (.int .i64 y1))), (5, .r (.v (.int .i64 y2)))], []⟩
def f_u48_2 (k : Nat) : Nat → List (I).T → Int → Int → Option R_u48
  | 0, _, _, _ => none
  | j + 1, y0, y1, y2 =>
  if (decide (y2 < (↑y0.length : Int)) = true → 0 ≤ y2) ∧ (decide (y2 < (↑y0.length : Int)) = true → y2 < (↑y0.length : Int)) then
  bif (decide (y2 < (↑y0.length : Int)) && decide (y0.getD y2.toNat I.dflt < y1)) then
  f_u48_2 k j y0 y1 ((IntKind.i64.wrap (y2 + 1)))
  else
  if (decide (y2 < (↑y0.length : Int)) = true → 0 ≤ y2) ∧ (decide (y2 < (↑y0.length : Int)) = true → y2 < (↑y0.length : Int)) then
  bif (decide (y2 < (↑y0.length : Int)) && y0.getD y2.toNat I.dflt == y1) then
  some y0
  else
  if ((0 : Int) ≤ (0 : Int)) ∧ (0 ≤ y2) ∧ (y2 ≤ (↑y0.length : Int)) ∧ (((0 : Nat) + (List.take (y2.toNat - Int.toNat (0 : Int)) (List.drop (Int.toNat (0 : Int)) y0)).length) * (8 : Nat) ≤ (140737488355328 : Nat)) then
  if ((([] ++ List.take (y2.toNat - Int.toNat (0 : Int)) (List.drop (Int.toNat (0 : Int)) y0)).length + [y1].length) * (8 : Nat) ≤ (140737488355328 : Nat)) then
  if (0 ≤ y2) ∧ (y2 ≤ (↑y0.length : Int)) ∧ ((↑y0.length : Int) ≤ (↑y0.length : Int)) ∧ ((([] ++ List.take (y2.toNat - Int.toNat (0 : Int)) (List.drop (Int.toNat (0 : Int)) y0) ++ [y1]).length + (List.take ((↑y0.length : Int).toNat - y2.toNat) (List.drop y2.toNat y0)).length) * (8 : Nat) ≤ (140737488355328 : Nat)) then
  some ([] ++ List.take (y2.toNat - Int.toNat 0) (List.drop (Int.toNat 0) y0) ++ [y1] ++ List.take ((↑y0.length : Int).toNat - y2.toNat) (List.drop y2.toNat y0))
  else none
  else none
  else none
  else none
  else none
def f_u48 (k : Nat) (l_ : List (I).T) (n_ : Int) : Option R_u48 :=
  f_u48_2 k k l_ n_ 0
def v_u48 (k : Nat) (l_ : List (I).T) (n_ : Int) : R_u48 := (f_u48 k l_ n_).getD []
def ke_u48 (k : Nat) : Ke := (119, fun xs => match xs with
  | [_, _] => some [false, false]
  | _ => none, fun xs bs => match xs, bs with
  | [.r (.ro tl__ ql_), .r (.v (.int .i64 n_))], [] => (castL tl__ I ql_).bind fun l_ => some (.one (res_u48 (v_u48 k l_ n_), bo_u48 l_ n_ (v_u48 k l_ n_)))
  | _, _ => none)
def cs_u48 : List (Nat × List Cmd) := [(2, [.autoB [0, 1, 5] false []])]
abbrev E_u48 (l_ : List (I).T) (n_ : Int) (todo : List Item) (st : St) (o : Option R_u48) : Prop := ∀ r, o = some r → Ev Tryz.prog Tryz.f119 0 todo st (res_u48 r) (bo_u48 l_ n_ r)
theorem ev_u48 (k : Nat) (l_ : List (I).T) (n_ : Int) : ∀ j, (∀ (y0 : List (I).T) (y1 : Int) (y2 : Int), E_u48 l_ n_ (placeAt Tryz.f119 2) (st_u48_2 y0 y1 y2) (f_u48_2 k j y0 y1 y2))
  | 0 => fun _ _ _ _ h => nomatch h
  | j + 1 => by
    have ih := @ev_u48 k l_ n_ j
    · intro y0 y1 y2 r h
      rw [f_u48_2] at h
      exact go (mkK []) [] cs_u48 [.frz 4 false (RTy.list I), .autoB [4] true []] (gN2 h fun h => gT h (fun c h => gC h 2 (ih _ _ _ _)) fun c h => gN2 h fun h => gT h (fun c h => gL h) fun c h => gN h (fun q => conjC q.1 (conjC q.2.1 (conjC q.2.2.1 (conjC q.2.2.2 conj0)))) fun h => gN1 h id fun h => gN h (fun q => conjC q.1 (conjC q.2.1 (conjC q.2.2.1 (conjC q.2.2.2 conj0)))) fun h => gL h) (by kernel_rfl)
theorem of_u48 (k : Nat) (l_ : List (I).T) (n_ : Int) (r : R_u48) (h : f_u48 k l_ n_ = some r) : C_u48 l_ n_ r := by
  refine CC.of (fn := Tryz.f119) (by kernel_rfl) (by kernel_rfl) (by kernel_rfl) (by kernel_rfl) ?_
  unfold f_u48 at h
  exact go (mkK []) [] cs_u48 [.frz 4 false (RTy.list I), .autoB [4] true []] (gC h 2 ((ev_u48 k l_ n_ k) _ _ _ _)) (by kernel_rfl)
theorem cc_u48 {k : Nat} {l_ : List (I).T} {n_ : Int} (h : (f_u48 k l_ n_).isSome = true) : C_u48 l_ n_ (v_u48 k l_ n_) := ccG (Φ := C_u48 l_ n_) h (of_u48 k l_ n_)
abbrev R_u47 : Type := List (I).T
def res_u47 (r : R_u47) : AV := .r (.ro I r)
def bo_u47 (a_ : List (T10).T) (b_ : List (T10).T) (r : R_u47) : List (Nat × Blk) := []
def args_u47 (a_ : List (T10).T) (b_ : List (T10).T) : List AV := [.r (.ro T10 a_), .r (.ro T10 b_)]
def bin_u47 (a_ : List (T10).T) (b_ : List (T10).T) : List Blk := []
abbrev C_u47 (a_ : List (T10).T) (b_ : List (T10).T) (r : R_u47) : Prop := CC Tryz.prog 97 (args_u47 a_ b_) (bin_u47 a_ b_) (res_u47 r) (bo_u47 a_ b_ r)
def st_u47_3 (y0 : List (T10).T) (y1 : List (T10).T) (y2 : List (I).T) (y3 : Int) : St := ⟨mkS 47 [(0, .r (.ro T10 y0)), (1, .r (.ro T10 y1)), (5, .r (.ro I y2)), (6, .r (.v (.int .i64 y3)))], []⟩
def st_u47_7 (y0 : List (T10).T) (y1 : List (I).T) (y2 : Int) : St := ⟨mkS 47 [(1, .r (.ro T10 y0)), (5, .r (.ro I y1)), (7, .r (.v (.int .i64 y2)))], []⟩
mutual
def f_u47_3 (k : Nat) : Nat → List (T10).T → List (T10).T → List (I).T → Int → Option R_u47
  | 0, _, _, _, _ => none
  | j + 1, y0, y1, y2, y3 =>
  bif (decide (y3 < (↑y0.length : Int))) then
  if (0 ≤ y3) ∧ (y3 < (↑y0.length : Int)) ∧ ((f_u48 k y2 (y0.getD y3.toNat T10.dflt).1).isSome = true) ∧ (0 ≤ y3) ∧ (y3 < (↑y0.length : Int)) ∧ ((f_u48 k (v_u48 k y2 (y0.getD y3.toNat T10.dflt).1) (y0.getD y3.toNat T10.dflt).2).isSome = true) then
  f_u47_3 k j y0 y1 ((v_u48 k (v_u48 k y2 (y0.getD y3.toNat T10.dflt).1) (y0.getD y3.toNat T10.dflt).2)) ((IntKind.i64.wrap (y3 + 1)))
  else none
  else
  f_u47_7 k j y1 y2 0
def f_u47_7 (k : Nat) : Nat → List (T10).T → List (I).T → Int → Option R_u47
  | 0, _, _, _ => none
  | j + 1, y0, y1, y2 =>
  bif (decide (y2 < (↑y0.length : Int))) then
  if (0 ≤ y2) ∧ (y2 < (↑y0.length : Int)) ∧ ((f_u48 k y1 (y0.getD y2.toNat T10.dflt).1).isSome = true) ∧ (0 ≤ y2) ∧ (y2 < (↑y0.length : Int)) ∧ ((f_u48 k (v_u48 k y1 (y0.getD y2.toNat T10.dflt).1) (y0.getD y2.toNat T10.dflt).2).isSome = true) then
  f_u47_7 k j y0 ((v_u48 k (v_u48 k y1 (y0.getD y2.toNat T10.dflt).1) (y0.getD y2.toNat T10.dflt).2)) ((IntKind.i64.wrap (y2 + 1)))
  else none
  else
  some y1
end
def f_u47 (k : Nat) (a_ : List (T10).T) (b_ : List (T10).T) : Option R_u47 :=
  f_u47_3 k k a_ b_ ([]) 0
def v_u47 (k : Nat) (a_ : List (T10).T) (b_ : List (T10).T) : R_u47 := (f_u47 k a_ b_).getD []
def ke_u47 (k : Nat) : Ke := (97, fun xs => match xs with
  | [_, _] => some [false, false]
  | _ => none, fun xs bs => match xs, bs with
  | [.r (.ro ta__ qa_), .r (.ro tb__ qb_)], [] => (castL ta__ T10 qa_).bind fun a_ => (castL tb__ T10 qb_).bind fun b_ => some (.one (res_u47 (v_u47 k a_ b_), bo_u47 a_ b_ (v_u47 k a_ b_)))
  | _, _ => none)
def cs_u47 : List (Nat × List Cmd) := [(3, [.frz 5 false (RTy.list I), .autoB [0, 1, 5, 6] false []]), (7, [.autoB [1, 5, 7] false []])]
abbrev E_u47 (a_ : List (T10).T) (b_ : List (T10).T) (todo : List Item) (st : St) (o : Option R_u47) : Prop := ∀ r, o = some r → Ev Tryz.prog Tryz.f97 0 todo st (res_u47 r) (bo_u47 a_ b_ r)
theorem ev_u47 (k : Nat) (a_ : List (T10).T) (b_ : List (T10).T) : ∀ j, (∀ (y0 : List (T10).T) (y1 : List (T10).T) (y2 : List (I).T) (y3 : Int), E_u47 a_ b_ (placeAt Tryz.f97 3) (st_u47_3 y0 y1 y2 y3) (f_u47_3 k j y0 y1 y2 y3)) ∧ (∀ (y0 : List (T10).T) (y1 : List (I).T) (y2 : Int), E_u47 a_ b_ (placeAt Tryz.f97 7) (st_u47_7 y0 y1 y2) (f_u47_7 k j y0 y1 y2))
  | 0 => ⟨fun _ _ _ _ _ h => (nomatch h), fun _ _ _ _ h => (nomatch h)⟩
  | j + 1 => by
    have ih := @ev_u47 k a_ b_ j
    refine ⟨?_, ?_⟩
    · intro y0 y1 y2 y3 r h
      rw [f_u47_3] at h
      exact go (mkK [ke_u48 k]) [] cs_u47 [.frz 4 false (RTy.list I), .autoB [4] true []] (gT h (fun c h => gN h (fun q => conjC q.1 (conjC q.2.1 (conjC (cc_u48 q.2.2.1) (conjC q.2.2.2.1 (conjC q.2.2.2.2.1 (conjC (cc_u48 q.2.2.2.2.2) conj0)))))) fun h => gC h 3 (ih.1 _ _ _ _ _)) fun c h => gC h 7 (ih.2 _ _ _ _)) (by kernel_rfl)
    · intro y0 y1 y2 r h
      rw [f_u47_7] at h
      exact go (mkK [ke_u48 k]) [] cs_u47 [.frz 4 false (RTy.list I), .autoB [4] true []] (gT h (fun c h => gN h (fun q => conjC q.1 (conjC q.2.1 (conjC (cc_u48 q.2.2.1) (conjC q.2.2.2.1 (conjC q.2.2.2.2.1 (conjC (cc_u48 q.2.2.2.2.2) conj0)))))) fun h => gC h 7 (ih.2 _ _ _ _)) fun c h => gL h) (by kernel_rfl)
theorem of_u47 (k : Nat) (a_ : List (T10).T) (b_ : List (T10).T) (r : R_u47) (h : f_u47 k a_ b_ = some r) : C_u47 a_ b_ r := by
  refine CC.of (fn := Tryz.f97) (by kernel_rfl) (by kernel_rfl) (by kernel_rfl) (by kernel_rfl) ?_
  unfold f_u47 at h
  exact go (mkK [ke_u48 k]) [] cs_u47 [.frz 4 false (RTy.list I), .autoB [4] true []] (gC h 3 ((ev_u47 k a_ b_ k).1 _ _ _ _ _)) (by kernel_rfl)
theorem cc_u47 {k : Nat} {a_ : List (T10).T} {b_ : List (T10).T} (h : (f_u47 k a_ b_).isSome = true) : C_u47 a_ b_ (v_u47 k a_ b_) := ccG (Φ := C_u47 a_ b_) h (of_u47 k a_ b_)
abbrev R_u42 : Type := Bool
def res_u42 (r : R_u42) : AV := .r (.v (.bool r))
def bo_u42 (l_ : List (T10).T) (x_ : Int) (r : R_u42) : List (Nat × Blk) := []
def args_u42 (l_ : List (T10).T) (x_ : Int) : List AV := [.r (.ro T10 l_), .r (.v (.int .i64 x_))]
def bin_u42 (l_ : List (T10).T) (x_ : Int) : List Blk := []
abbrev C_u42 (l_ : List (T10).T) (x_ : Int) (r : R_u42) : Prop := CC Tryz.prog 98 (args_u42 l_ x_) (bin_u42 l_ x_) (res_u42 r) (bo_u42 l_ x_ r)
def st_u42_2 (y0 : List (T10).T) (y1 : Int) (y2 : Int) : St := ⟨mkS 28 [(0, .r (.ro T10 y0)), (1, .r (.v (.int .i64 y1))), (5, .r (.v (.int .i64 y2)))], []⟩
def f_u42_2 (k : Nat) : Nat → List (T10).T → Int → Int → Option R_u42
  | 0, _, _, _ => none
  | j + 1, y0, y1, y2 =>
  bif (decide (y2 < (↑y0.length : Int))) then
  if (0 ≤ y2) ∧ (y2 < (↑y0.length : Int)) ∧ (decide ((y0.getD y2.toNat T10.dflt).1 ≤ y1) = true → 0 ≤ y2) ∧ (decide ((y0.getD y2.toNat T10.dflt).1 ≤ y1) = true → y2 < (↑y0.length : Int)) then
  bif (decide ((y0.getD y2.toNat T10.dflt).1 ≤ y1) && decide (y1 < (y0.getD y2.toNat T10.dflt).2)) then
  some true
  else
  f_u42_2 k j y0 y1 ((IntKind.i64.wrap (y2 + 1)))
  else none
  else
  some false
def f_u42 (k : Nat) (l_ : List (T10).T) (x_ : Int) : Option R_u42 :=
  f_u42_2 k k l_ x_ 0
def v_u42 (k : Nat) (l_ : List (T10).T) (x_ : Int) : R_u42 := (f_u42 k l_ x_).getD false
def ke_u42 (k : Nat) : Ke := (98, fun xs => match xs with
  | [_, _] => some [false, false]
  | _ => none, fun xs bs => match xs, bs with
  | [.r (.ro tl__ ql_), .r (.v (.int .i64 x_))], [] => (castL tl__ T10 ql_).bind fun l_ => some (.one (res_u42 (v_u42 k l_ x_), bo_u42 l_ x_ (v_u42 k l_ x_)))
  | _, _ => none)
def cs_u42 : List (Nat × List Cmd) := [(2, [.autoB [0, 1, 5] false []])]
abbrev E_u42 (l_ : List (T10).T) (x_ : Int) (todo : List Item) (st : St) (o : Option R_u42) : Prop := ∀ r, o = some r → Ev Tryz.prog Tryz.f98 0 todo st (res_u42 r) (bo_u42 l_ x_ r)
theorem ev_u42 (k : Nat) (l_ : List (T10).T) (x_ : Int) : ∀ j, (∀ (y0 : List (T10).T) (y1 : Int) (y2 : Int), E_u42 l_ x_ (placeAt Tryz.f98 2) (st_u42_2 y0 y1 y2) (f_u42_2 k j y0 y1 y2))
  | 0 => fun _ _ _ _ h => nomatch h
  | j + 1 => by
    have ih := @ev_u42 k l_ x_ j
    · intro y0 y1 y2 r h
      rw [f_u42_2] at h
      exact go (mkK []) [] cs_u42 [.autoB [4] true []] (gT h (fun c h => gN h (fun q => conjC q.1 (conjC q.2.1 (conjC q.2.2.1 (conjC q.2.2.2 conj0)))) fun h => gT h (fun c h => gL h) fun c h => gC h 2 (ih _ _ _ _)) fun c h => gL h) (by kernel_rfl)
theorem of_u42 (k : Nat) (l_ : List (T10).T) (x_ : Int) (r : R_u42) (h : f_u42 k l_ x_ = some r) : C_u42 l_ x_ r := by
  refine CC.of (fn := Tryz.f98) (by kernel_rfl) (by kernel_rfl) (by kernel_rfl) (by kernel_rfl) ?_
  unfold f_u42 at h
  exact go (mkK []) [] cs_u42 [.autoB [4] true []] (gC h 2 ((ev_u42 k l_ x_ k) _ _ _ _)) (by kernel_rfl)
theorem cc_u42 {k : Nat} {l_ : List (T10).T} {x_ : Int} (h : (f_u42 k l_ x_).isSome = true) : C_u42 l_ x_ (v_u42 k l_ x_) := ccG (Φ := C_u42 l_ x_) h (of_u42 k l_ x_)
abbrev R_u46 : Type := List (T10).T
def res_u46 (r : R_u46) : AV := .r (.ro T10 r)
def bo_u46 (a_ : List (T10).T) (b_ : List (T10).T) (way_ : Int) (r : R_u46) : List (Nat × Blk) := []
def args_u46 (a_ : List (T10).T) (b_ : List (T10).T) (way_ : Int) : List AV := [.r (.ro T10 a_), .r (.ro T10 b_), .r (.v (.int .i64 way_))]
def bin_u46 (a_ : List (T10).T) (b_ : List (T10).T) (way_ : Int) : List Blk := []
abbrev C_u46 (a_ : List (T10).T) (b_ : List (T10).T) (way_ : Int) (r : R_u46) : Prop := CC Tryz.prog 87 (args_u46 a_ b_ way_) (bin_u46 a_ b_ way_) (res_u46 r) (bo_u46 a_ b_ way_ r)
def st_u46_4 (y0 : List (T10).T) (y1 : List (T10).T) (y2 : Int) (y3 : List (I).T) (y4 : Int) (y5 : List (T10).T) : St := ⟨mkS 107 [(0, .r (.ro T10 y0)), (1, .r (.ro T10 y1)), (2, .r (.v (.int .i64 y2))), (7, .r (.ro I y3)), (8, .own 1000000 0), (9, .r (.v (.int .i64 y4)))], [(1000000, 0, .row 72 T10 y5)]⟩
def f_u46_4 (k : Nat) : Nat → List (T10).T → List (T10).T → Int → List (I).T → Int → List (T10).T → Option R_u46
  | 0, _, _, _, _, _, _ => none
  | j + 1, y0, y1, y2, y3, y4, y5 =>
  bif (decide (IntKind.i64.wrap (y4 + (1 : Int)) < (↑y3.length : Int))) then
  if (0 ≤ y4) ∧ (y4 < (↑y3.length : Int)) ∧ ((f_u42 k y0 (y3.getD y4.toNat I.dflt)).isSome = true) ∧ (0 ≤ y4) ∧ (y4 < (↑y3.length : Int)) ∧ ((f_u42 k y1 (y3.getD y4.toNat I.dflt)).isSome = true) then
  bif (y2 == (0 : Int) && (!v_u42 k y0 (y3.getD y4.toNat I.dflt)) && (!v_u42 k y1 (y3.getD y4.toNat I.dflt)) || y2 == (1 : Int) && (! (v_u42 k y0 (y3.getD y4.toNat I.dflt) && v_u42 k y1 (y3.getD y4.toNat I.dflt))) || y2 == (2 : Int) && (!v_u42 k y0 (y3.getD y4.toNat I.dflt) || v_u42 k y1 (y3.getD y4.toNat I.dflt))) then
  f_u46_4 k j y0 y1 y2 y3 ((IntKind.i64.wrap (y4 + 1))) y5
  else
  if (decide (IntKind.i64.wrap ((↑y5.length : Int) - (1 : Int)) ≥ (0 : Int)) = true → (0 : Int) ≤ IntKind.i64.wrap ((↑y5.length : Int) - (1 : Int))) ∧ (decide (IntKind.i64.wrap ((↑y5.length : Int) - (1 : Int)) ≥ (0 : Int)) = true → IntKind.i64.wrap ((↑y5.length : Int) - (1 : Int)) < (↑y5.length : Int)) ∧ (decide (IntKind.i64.wrap ((↑y5.length : Int) - (1 : Int)) ≥ (0 : Int)) = true → 0 ≤ y4) ∧ (decide (IntKind.i64.wrap ((↑y5.length : Int) - (1 : Int)) ≥ (0 : Int)) = true → y4 < (↑y3.length : Int)) then
  bif (decide (IntKind.i64.wrap ((↑y5.length : Int) - (1 : Int)) ≥ (0 : Int)) && (y5.getD (IntKind.i64.wrap ((↑y5.length : Int) - (1 : Int))).toNat T10.dflt).2 == y3.getD y4.toNat I.dflt) then
  if ((0 : Int) ≤ IntKind.i64.wrap (y4 + (1 : Int))) ∧ (IntKind.i64.wrap (y4 + (1 : Int)) < (↑y3.length : Int)) ∧ ((0 : Int) ≤ IntKind.i64.wrap ((↑y5.length : Int) - (1 : Int))) ∧ (IntKind.i64.wrap ((↑y5.length : Int) - (1 : Int)) < (↑y5.length : Int)) then
  f_u46_4 k j y0 y1 y2 y3 ((IntKind.i64.wrap (y4 + 1))) ((y5.set (IntKind.i64.wrap ((↑y5.length : Int) - 1)).toNat ((y5.getD (IntKind.i64.wrap ((↑y5.length : Int) - 1)).toNat T10.dflt).1, y3.getD (IntKind.i64.wrap (y4 + 1)).toNat I.dflt)))
  else none
  else
  if (0 ≤ y4) ∧ (y4 < (↑y3.length : Int)) ∧ ((0 : Int) ≤ IntKind.i64.wrap (y4 + (1 : Int))) ∧ (IntKind.i64.wrap (y4 + (1 : Int)) < (↑y3.length : Int)) ∧ ((y5.length + [(y3.getD y4.toNat I.dflt, y3.getD (IntKind.i64.wrap (y4 + (1 : Int))).toNat I.dflt)].length) * (16 : Nat) ≤ (140737488355328 : Nat)) then
  f_u46_4 k j y0 y1 y2 y3 ((IntKind.i64.wrap (y4 + 1))) ((y5 ++ [(y3.getD y4.toNat I.dflt, y3.getD (IntKind.i64.wrap (y4 + 1)).toNat I.dflt)]))
  else none
  else none
  else none
  else
  some y5
def f_u46 (k : Nat) (a_ : List (T10).T) (b_ : List (T10).T) (way_ : Int) : Option R_u46 :=
  if ((f_u47 k a_ b_).isSome = true) then
  f_u46_4 k k a_ b_ way_ ((v_u47 k a_ b_)) 0 ([])
  else none
def v_u46 (k : Nat) (a_ : List (T10).T) (b_ : List (T10).T) (way_ : Int) : R_u46 := (f_u46 k a_ b_ way_).getD []
def ke_u46 (k : Nat) : Ke := (87, fun xs => match xs with
  | [_, _, _] => some [false, false, false]
  | _ => none, fun xs bs => match xs, bs with
  | [.r (.ro ta__ qa_), .r (.ro tb__ qb_), .r (.v (.int .i64 way_))], [] => (castL ta__ T10 qa_).bind fun a_ => (castL tb__ T10 qb_).bind fun b_ => some (.one (res_u46 (v_u46 k a_ b_ way_), bo_u46 a_ b_ way_ (v_u46 k a_ b_ way_)))
  | _, _ => none)
def cs_u46 : List (Nat × List Cmd) := [(4, [.row 8 72 T10, .autoB [0, 1, 2, 7, 8, 9] false []])]
abbrev E_u46 (a_ : List (T10).T) (b_ : List (T10).T) (way_ : Int) (todo : List Item) (st : St) (o : Option R_u46) : Prop := ∀ r, o = some r → Ev Tryz.prog Tryz.f87 0 todo st (res_u46 r) (bo_u46 a_ b_ way_ r)
theorem ev_u46 (k : Nat) (a_ : List (T10).T) (b_ : List (T10).T) (way_ : Int) : ∀ j, (∀ (y0 : List (T10).T) (y1 : List (T10).T) (y2 : Int) (y3 : List (I).T) (y4 : Int) (y5 : List (T10).T), E_u46 a_ b_ way_ (placeAt Tryz.f87 4) (st_u46_4 y0 y1 y2 y3 y4 y5) (f_u46_4 k j y0 y1 y2 y3 y4 y5))
  | 0 => fun _ _ _ _ _ _ _ h => (nomatch h)
  | j + 1 => by
    have ih := @ev_u46 k a_ b_ way_ j
    · intro y0 y1 y2 y3 y4 y5 r h
      rw [f_u46_4] at h
      exact go (mkK [ke_u47 k, ke_u42 k]) [] cs_u46 [.frz 6 false (RTy.list T10), .autoB [6] true []] (gT h (fun c h => gN h (fun q => conjC q.1 (conjC q.2.1 (conjC (cc_u42 q.2.2.1) (conjC q.2.2.2.1 (conjC q.2.2.2.2.1 (conjC (cc_u42 q.2.2.2.2.2) conj0)))))) fun h => gT h (fun c h => gC h 4 (ih _ _ _ _ _ _ _)) fun c h => gN h (fun q => conjC q.1 (conjC q.2.1 (conjC q.2.2.1 (conjC q.2.2.2 conj0)))) fun h => gT h (fun c h => gN h (fun q => conjC q.1 (conjC q.2.1 (conjC q.2.2.1 (conjC q.2.2.2 conj0)))) fun h => gC h 4 (ih _ _ _ _ _ _ _)) fun c h => gN h (fun q => conjC q.1 (conjC q.2.1 (conjC q.2.2.1 (conjC q.2.2.2.1 (conjC q.2.2.2.2 conj0))))) fun h => gC h 4 (ih _ _ _ _ _ _ _)) fun c h => gL h) (by kernel_rfl)
theorem of_u46 (k : Nat) (a_ : List (T10).T) (b_ : List (T10).T) (way_ : Int) (r : R_u46) (h : f_u46 k a_ b_ way_ = some r) : C_u46 a_ b_ way_ r := by
  refine CC.of (fn := Tryz.f87) (by kernel_rfl) (by kernel_rfl) (by kernel_rfl) (by kernel_rfl) ?_
  unfold f_u46 at h
  exact go (mkK [ke_u47 k, ke_u42 k]) [] cs_u46 [.frz 6 false (RTy.list T10), .autoB [6] true []] (gN1 h (fun q => cc_u47 q) fun h => gC h 4 ((ev_u46 k a_ b_ way_ k) _ _ _ _ _ _ _)) (by kernel_rfl)
theorem cc_u46 {k : Nat} {a_ : List (T10).T} {b_ : List (T10).T} {way_ : Int} (h : (f_u46 k a_ b_ way_).isSome = true) : C_u46 a_ b_ way_ (v_u46 k a_ b_ way_) := ccG (Φ := C_u46 a_ b_ way_) h (of_u46 k a_ b_ way_)
abbrev R_u45 : Type := List (T10).T × Int
def res_u45 (r : R_u45) : AV := .tup [.r (.ro T10 r.1), .r (.v (.int .i64 r.2))]
def bo_u45 (a_ : List (T10).T) (b_ : List (T10).T) (way_ : Int) (r : R_u45) : List (Nat × Blk) := []
def args_u45 (a_ : List (T10).T) (b_ : List (T10).T) (way_ : Int) : List AV := [.r (.ro T10 a_), .r (.ro T10 b_), .r (.v (.int .i64 way_))]
def bin_u45 (a_ : List (T10).T) (b_ : List (T10).T) (way_ : Int) : List Blk := []
abbrev C_u45 (a_ : List (T10).T) (b_ : List (T10).T) (way_ : Int) (r : R_u45) : Prop := CC Tryz.prog 73 (args_u45 a_ b_ way_) (bin_u45 a_ b_ way_) (res_u45 r) (bo_u45 a_ b_ way_ r)
def f_u45 (k : Nat) (a_ : List (T10).T) (b_ : List (T10).T) (way_ : Int) : Option R_u45 :=
  if ((f_u41 k a_).isSome = true) then
  bif (v_u41 k a_ != (0 : Int)) then
  some (([], v_u41 k a_))
  else
  if ((f_u41 k b_).isSome = true) then
  bif (v_u41 k b_ != (0 : Int)) then
  some (([], v_u41 k b_))
  else
  if ((f_u46 k a_ b_ way_).isSome = true) then
  bif (decide ((↑ (List.length (v_u46 k a_ b_ way_)) : Int) > (256 : Int))) then
  some (([], 8))
  else
  some ((v_u46 k a_ b_ way_, 0))
  else none
  else none
  else none
def v_u45 (k : Nat) (a_ : List (T10).T) (b_ : List (T10).T) (way_ : Int) : R_u45 := (f_u45 k a_ b_ way_).getD ([], 0)
def ke_u45 (k : Nat) : Ke := (73, fun xs => match xs with
  | [_, _, _] => some [false, false, false]
  | _ => none, fun xs bs => match xs, bs with
  | [.r (.ro ta__ qa_), .r (.ro tb__ qb_), .r (.v (.int .i64 way_))], [] => (castL ta__ T10 qa_).bind fun a_ => (castL tb__ T10 qb_).bind fun b_ => some (.one (res_u45 (v_u45 k a_ b_ way_), bo_u45 a_ b_ way_ (v_u45 k a_ b_ way_)))
  | _, _ => none)
theorem of_u45 (k : Nat) (a_ : List (T10).T) (b_ : List (T10).T) (way_ : Int) (r : R_u45) (h : f_u45 k a_ b_ way_ = some r) : C_u45 a_ b_ way_ r := by
  refine CC.of (fn := Tryz.f73) (by kernel_rfl) (by kernel_rfl) (by kernel_rfl) (by kernel_rfl) ?_
  unfold f_u45 at h
  exact go (mkK [ke_u41 k, ke_u46 k]) [] [] [.frz 6 false (RTy.list T10), .autoB [6, 7] true []] (gN1 h (fun q => cc_u41 q) fun h => gT h (fun c h => gL h) fun c h => gN1 h (fun q => cc_u41 q) fun h => gT h (fun c h => gL h) fun c h => gN1 h (fun q => cc_u46 q) fun h => gT h (fun c h => gL h) fun c h => gL h) (by kernel_rfl)
theorem cc_u45 {k : Nat} {a_ : List (T10).T} {b_ : List (T10).T} {way_ : Int} (h : (f_u45 k a_ b_ way_).isSome = true) : C_u45 a_ b_ way_ (v_u45 k a_ b_ way_) := ccG (Φ := C_u45 a_ b_ way_) h (of_u45 k a_ b_ way_)
abbrev R_u43 : Type := List (T10).T × Int
def res_u43 (r : R_u43) : AV := .tup [.r (.ro T10 r.1), .r (.v (.int .i64 r.2))]
def bo_u43 (l_ : List (T10).T) (r : R_u43) : List (Nat × Blk) := []
def args_u43 (l_ : List (T10).T) : List AV := [.r (.ro T10 l_)]
def bin_u43 (l_ : List (T10).T) : List Blk := []
abbrev C_u43 (l_ : List (T10).T) (r : R_u43) : Prop := CC Tryz.prog 51 (args_u43 l_) (bin_u43 l_) (res_u43 r) (bo_u43 l_ r)
def f_u43 (k : Nat) (l_ : List (T10).T) : Option R_u43 :=
  if ((f_u45 k l_ [] 0).isSome = true) then
  some (((v_u45 k l_ [] 0).1, (v_u45 k l_ [] 0).2))
  else none
def v_u43 (k : Nat) (l_ : List (T10).T) : R_u43 := (f_u43 k l_).getD ([], 0)
def ke_u43 (k : Nat) : Ke := (51, fun xs => match xs with
  | [_] => some [false]
  | _ => none, fun xs bs => match xs, bs with
  | [.r (.ro tl__ ql_)], [] => (castL tl__ T10 ql_).bind fun l_ => some (.one (res_u43 (v_u43 k l_), bo_u43 l_ (v_u43 k l_)))
  | _, _ => none)
theorem of_u43 (k : Nat) (l_ : List (T10).T) (r : R_u43) (h : f_u43 k l_ = some r) : C_u43 l_ r := by
  refine CC.of (fn := Tryz.f51) (by kernel_rfl) (by kernel_rfl) (by kernel_rfl) (by kernel_rfl) ?_
  unfold f_u43 at h
  exact go (mkK [ke_u45 k]) [] [] [.frz 2 false (RTy.list T10), .autoB [2, 3] true []] (gN1 h (fun q => cc_u45 q) fun h => gL h) (by kernel_rfl)
theorem cc_u43 {k : Nat} {l_ : List (T10).T} (h : (f_u43 k l_).isSome = true) : C_u43 l_ (v_u43 k l_) := ccG (Φ := C_u43 l_) h (of_u43 k l_)
abbrev R_u52 : Type := List (T10).T × Int
def res_u52 (r : R_u52) : AV := .tup [.r (.ro T10 r.1), .r (.v (.int .i64 r.2))]
def bo_u52 (m_ : List (T0).T) (r : R_u52) : List (Nat × Blk) := []
def args_u52 (m_ : List (T0).T) : List AV := [.r (.ro T0 m_)]
def bin_u52 (m_ : List (T0).T) : List Blk := []
abbrev C_u52 (m_ : List (T0).T) (r : R_u52) : Prop := CC Tryz.prog 36 (args_u52 m_) (bin_u52 m_) (res_u52 r) (bo_u52 m_ r)
def st_u52_6 (y0 : List (T0).T) (y1 : Int) (y2 : List (T10).T) : St := ⟨mkS 51 [(0, .r (.ro T0 y0)), (5, .own 1000000 0), (6, .r (.v (.int .i64 y1)))], [(1000000, 0, .row 72 T10 y2)]⟩
def st_u52_10 (y0 : List (T10).T) : St := ⟨mkS 51 [(5, .r (.ro T10 y0))], []⟩
mutual
def f_u52_6 (k : Nat) : Nat → List (T0).T → Int → List (T10).T → Option R_u52
  | 0, _, _, _ => none
  | j + 1, y0, y1, y2 =>
  bif (decide (y1 < (↑y0.length : Int))) then
  if (0 ≤ y1) ∧ (y1 < (↑y0.length : Int)) ∧ (0 ≤ y1) ∧ (y1 < (↑y0.length : Int)) ∧ (0 ≤ y1) ∧ (y1 < (↑y0.length : Int)) ∧ ((f_u58 k (y0.getD y1.toNat T0.dflt) (IntKind.i64.wrap ((y0.getD y1.toNat T0.dflt).2.1 - 1))).isSome = true) then
  if ((y2.length + [(if v_u58 k (y0.getD y1.toNat T0.dflt) (IntKind.i64.wrap ((y0.getD y1.toNat T0.dflt).2.1 - (1 : Int))) < (y0.getD y1.toNat T0.dflt).1 then v_u58 k (y0.getD y1.toNat T0.dflt) (IntKind.i64.wrap ((y0.getD y1.toNat T0.dflt).2.1 - (1 : Int))) else (y0.getD y1.toNat T0.dflt).1, IntKind.i64.wrap ((if v_u58 k (y0.getD y1.toNat T0.dflt) (IntKind.i64.wrap ((y0.getD y1.toNat T0.dflt).2.1 - (1 : Int))) > (y0.getD y1.toNat T0.dflt).1 then v_u58 k (y0.getD y1.toNat T0.dflt) (IntKind.i64.wrap ((y0.getD y1.toNat T0.dflt).2.1 - (1 : Int))) else (y0.getD y1.toNat T0.dflt).1) + (1 : Int)))].length) * (16 : Nat) ≤ (140737488355328 : Nat)) then
  f_u52_6 k j y0 ((IntKind.i64.wrap (y1 + 1))) ((y2 ++ [(if v_u58 k (y0.getD y1.toNat T0.dflt) (IntKind.i64.wrap ((y0.getD y1.toNat T0.dflt).2.1 - 1)) < (y0.getD y1.toNat T0.dflt).1 then v_u58 k (y0.getD y1.toNat T0.dflt) (IntKind.i64.wrap ((y0.getD y1.toNat T0.dflt).2.1 - 1)) else (y0.getD y1.toNat T0.dflt).1, IntKind.i64.wrap ((if v_u58 k (y0.getD y1.toNat T0.dflt) (IntKind.i64.wrap ((y0.getD y1.toNat T0.dflt).2.1 - 1)) > (y0.getD y1.toNat T0.dflt).1 then v_u58 k (y0.getD y1.toNat T0.dflt) (IntKind.i64.wrap ((y0.getD y1.toNat T0.dflt).2.1 - 1)) else (y0.getD y1.toNat T0.dflt).1) + 1))]))
  else none
  else none
  else
  f_u52_10 k j y2
def f_u52_10 (k : Nat) : Nat → List (T10).T → Option R_u52
  | 0, _ => none
  | j + 1, y0 =>
  if ((f_u43 k y0).isSome = true) then
  some (((v_u43 k y0).1, (v_u43 k y0).2))
  else none
end
def f_u52 (k : Nat) (m_ : List (T0).T) : Option R_u52 :=
  if ((f_u49 k m_).isSome = true) then
  bif (v_u49 k m_ != (0 : Int)) then
  some (([], v_u49 k m_))
  else
  f_u52_6 k k m_ 0 ([])
  else none
def v_u52 (k : Nat) (m_ : List (T0).T) : R_u52 := (f_u52 k m_).getD ([], 0)
def ke_u52 (k : Nat) : Ke := (36, fun xs => match xs with
  | [_] => some [false]
  | _ => none, fun xs bs => match xs, bs with
  | [.r (.ro tm__ qm_)], [] => (castL tm__ T0 qm_).bind fun m_ => some (.one (res_u52 (v_u52 k m_), bo_u52 m_ (v_u52 k m_)))
  | _, _ => none)
def K_u52 (k : Nat) : Calld := mkK [ke_u49 k, ke_u43 k, ke_u58 k]
def cs_u52 : List (Nat × List Cmd) := [(6, [.row 5 72 T10, .autoB [0, 5, 6] false []]), (10, [.frz 5 false (RTy.list T10), .autoB [5] false []])]
abbrev E_u52 (m_ : List (T0).T) (todo : List Item) (st : St) (o : Option R_u52) : Prop := ∀ r, o = some r → Ev Tryz.prog Tryz.f36 0 todo st (res_u52 r) (bo_u52 m_ r)
theorem ev_u52 (k : Nat) (m_ : List (T0).T) : ∀ j, (∀ (y0 : List (T0).T) (y1 : Int) (y2 : List (T10).T), E_u52 m_ (placeAt Tryz.f36 6) (st_u52_6 y0 y1 y2) (f_u52_6 k j y0 y1 y2)) ∧ (∀ (y0 : List (T10).T), E_u52 m_ (placeAt Tryz.f36 10) (st_u52_10 y0) (f_u52_10 k j y0))
  | 0 => ⟨fun _ _ _ _ h => (nomatch h), fun _ _ h => (nomatch h)⟩
  | j + 1 => by
    have ih := @ev_u52 k m_ j
    refine ⟨?_, ?_⟩
    · intro y0 y1 y2 r h
      rw [f_u52_6] at h
      exact go (K_u52 k) [10] cs_u52 [.frz 2 false (RTy.list T10), .autoB [2, 3] true []] (gT h (fun c h => gN h (fun q => conjC q.1 (conjC q.2.1 (conjC q.2.2.1 (conjC q.2.2.2.1 (conjC q.2.2.2.2.1 (conjC q.2.2.2.2.2.1 (conjC (cc_u58 q.2.2.2.2.2.2) conj0))))))) fun h => gN1 h id fun h => gC h 6 (ih.1 _ _ _ _)) fun c h => gC h 10 (ih.2 _ _)) (by kernel_rfl)
    · intro y0 r h
      rw [f_u52_10] at h
      exact go (K_u52 k) [10] cs_u52 [.frz 2 false (RTy.list T10), .autoB [2, 3] true []] (gN1 h (fun q => cc_u43 q) fun h => gL h) (by kernel_rfl)
theorem of_u52 (k : Nat) (m_ : List (T0).T) (r : R_u52) (h : f_u52 k m_ = some r) : C_u52 m_ r := by
  refine CC.of (fn := Tryz.f36) (by kernel_rfl) (by kernel_rfl) (by kernel_rfl) (by kernel_rfl) ?_
  unfold f_u52 at h
  exact go (K_u52 k) [10] cs_u52 [.frz 2 false (RTy.list T10), .autoB [2, 3] true []] (gN1 h (fun q => cc_u49 q) fun h => gT h (fun c h => gL h) fun c h => gC h 6 ((ev_u52 k m_ k).1 _ _ _ _)) (by kernel_rfl)
theorem cc_u52 {k : Nat} {m_ : List (T0).T} (h : (f_u52 k m_).isSome = true) : C_u52 m_ (v_u52 k m_) := ccG (Φ := C_u52 m_) h (of_u52 k m_)
abbrev R_u44 : Type := Int × Int
def res_u44 (r : R_u44) : AV := .tup [.r (.v (.int .i64 r.1)), .r (.v (.int .i64 r.2))]
def bo_u44 (l_ : List (T10).T) (r : R_u44) : List (Nat × Blk) := []
def args_u44 (l_ : List (T10).T) : List AV := [.r (.ro T10 l_)]
def bin_u44 (l_ : List (T10).T) : List Blk := []
abbrev C_u44 (l_ : List (T10).T) (r : R_u44) : Prop := CC Tryz.prog 118 (args_u44 l_) (bin_u44 l_) (res_u44 r) (bo_u44 l_ r)
def st_u44_4 (y0 : List (T10).T) (y1 : Int) (y2 : Int) (y3 : Int) : St := ⟨mkS 34 [(4, .r (.ro T10 y0)), (5, .r (.v (.int .i64 y1))), (6, .r (.v (.int .i64 y2))), (7, .r (.v (.int .i64 y3)))], []⟩
def f_u44_4 (k : Nat) : Nat → List (T10).T → Int → Int → Int → Option R_u44
  | 0, _, _, _, _ => none
  | j + 1, y0, y1, y2, y3 =>
  bif (decide (y3 < (↑y0.length : Int))) then
  if (0 ≤ y3) ∧ (y3 < (↑y0.length : Int)) ∧ (0 ≤ y3) ∧ (y3 < (↑y0.length : Int)) then
  f_u44_4 k j y0 y1 ((IntKind.i64.wrap (IntKind.i64.wrap (y2 + (y0.getD y3.toNat T10.dflt).2) - (y0.getD y3.toNat T10.dflt).1))) ((IntKind.i64.wrap (y3 + 1)))
  else none
  else
  some ((y2, y1))
def f_u44 (k : Nat) (l_ : List (T10).T) : Option R_u44 :=
  if ((f_u43 k l_).isSome = true) then
  f_u44_4 k k ((v_u43 k l_).1) ((v_u43 k l_).2) 0 0
  else none
def v_u44 (k : Nat) (l_ : List (T10).T) : R_u44 := (f_u44 k l_).getD (0, 0)
def ke_u44 (k : Nat) : Ke := (118, fun xs => match xs with
  | [_] => some [false]
  | _ => none, fun xs bs => match xs, bs with
  | [.r (.ro tl__ ql_)], [] => (castL tl__ T10 ql_).bind fun l_ => some (.one (res_u44 (v_u44 k l_), bo_u44 l_ (v_u44 k l_)))
  | _, _ => none)
def cs_u44 : List (Nat × List Cmd) := [(4, [.autoB [4, 5, 6, 7] false []])]
abbrev E_u44 (l_ : List (T10).T) (todo : List Item) (st : St) (o : Option R_u44) : Prop := ∀ r, o = some r → Ev Tryz.prog Tryz.f118 0 todo st (res_u44 r) (bo_u44 l_ r)
theorem ev_u44 (k : Nat) (l_ : List (T10).T) : ∀ j, (∀ (y0 : List (T10).T) (y1 : Int) (y2 : Int) (y3 : Int), E_u44 l_ (placeAt Tryz.f118 4) (st_u44_4 y0 y1 y2 y3) (f_u44_4 k j y0 y1 y2 y3))
  | 0 => fun _ _ _ _ _ h => (nomatch h)
  | j + 1 => by
    have ih := @ev_u44 k l_ j
    · intro y0 y1 y2 y3 r h
      rw [f_u44_4] at h
      exact go (mkK [ke_u43 k]) [] cs_u44 [.autoB [2, 3] true []] (gT h (fun c h => gN h (fun q => conjC q.1 (conjC q.2.1 (conjC q.2.2.1 (conjC q.2.2.2 conj0)))) fun h => gC h 4 (ih _ _ _ _ _)) fun c h => gL h) (by kernel_rfl)
theorem of_u44 (k : Nat) (l_ : List (T10).T) (r : R_u44) (h : f_u44 k l_ = some r) : C_u44 l_ r := by
  refine CC.of (fn := Tryz.f118) (by kernel_rfl) (by kernel_rfl) (by kernel_rfl) (by kernel_rfl) ?_
  unfold f_u44 at h
  exact go (mkK [ke_u43 k]) [] cs_u44 [.autoB [2, 3] true []] (gN1 h (fun q => cc_u43 q) fun h => gC h 4 ((ev_u44 k l_ k) _ _ _ _ _)) (by kernel_rfl)
theorem cc_u44 {k : Nat} {l_ : List (T10).T} (h : (f_u44 k l_).isSome = true) : C_u44 l_ (v_u44 k l_) := ccG (Φ := C_u44 l_) h (of_u44 k l_)
abbrev R_u55 : Type := Bool
def res_u55 (r : R_u55) : AV := .r (.v (.bool r))
def bo_u55 (m_ : List (T0).T) (r : R_u55) : List (Nat × Blk) := []
def args_u55 (m_ : List (T0).T) : List AV := [.r (.ro T0 m_)]
def bin_u55 (m_ : List (T0).T) : List Blk := []
abbrev C_u55 (m_ : List (T0).T) (r : R_u55) : Prop := CC Tryz.prog 95 (args_u55 m_) (bin_u55 m_) (res_u55 r) (bo_u55 m_ r)
def f_u55 (k : Nat) (m_ : List (T0).T) : Option R_u55 :=
  if ((f_u49 k m_).isSome = true) then
  bif (v_u49 k m_ != (0 : Int)) then
  some false
  else
  if ((f_u52 k m_).isSome = true) then
  if ((f_u44 k (v_u52 k m_).1).isSome = true) then
  bif ((v_u44 k (v_u52 k m_).1).2 == (0 : Int)) then
  if (((v_u44 k (v_u52 k m_).1).2 == (0 : Int)) = true) ∧ ((f_u59 k m_).isSome = true) then
  some (true && (v_u44 k (v_u52 k m_).1).1 == v_u59 k m_)
  else none
  else
  if (((v_u44 k (v_u52 k m_).1).2 == (0 : Int)) = false) then
  some false
  else none
  else none
  else none
  else none
def v_u55 (k : Nat) (m_ : List (T0).T) : R_u55 := (f_u55 k m_).getD false
def ke_u55 (k : Nat) : Ke := (95, fun xs => match xs with
  | [_] => some [false]
  | _ => none, fun xs bs => match xs, bs with
  | [.r (.ro tm__ qm_)], [] => (castL tm__ T0 qm_).bind fun m_ => some (.one (res_u55 (v_u55 k m_), bo_u55 m_ (v_u55 k m_)))
  | _, _ => none)
theorem of_u55 (k : Nat) (m_ : List (T0).T) (r : R_u55) (h : f_u55 k m_ = some r) : C_u55 m_ r := by
  refine CC.of (fn := Tryz.f95) (by kernel_rfl) (by kernel_rfl) (by kernel_rfl) (by kernel_rfl) ?_
  unfold f_u55 at h
  exact go (mkK [ke_u59 k, ke_u49 k, ke_u52 k, ke_u44 k]) [] [] [.autoB [2] true []] (gN1 h (fun q => cc_u49 q) fun h => gT h (fun c h => gL h) fun c h => gN1 h (fun q => cc_u52 q) fun h => gN1 h (fun q => cc_u44 q) fun h => gT h (fun c h => gN h (fun q => conjC q.1 (conjC (cc_u59 q.2) conj0)) fun h => gL h) fun c h => gN1 h id fun h => gL h) (by kernel_rfl)
theorem cc_u55 {k : Nat} {m_ : List (T0).T} (h : (f_u55 k m_).isSome = true) : C_u55 m_ (v_u55 k m_) := ccG (Φ := C_u55 m_) h (of_u55 k m_)

end
/-! ### maps: the program's functions and the reference's -/
theorem iso_image_s (k : Nat) (r : Rn) (x : Int) (h1 : -4611686018427387904 ≤ r.1) (h2 : r.1 ≤ 4611686018427387903) (h3 : -4611686018427387904 ≤ x) (h4 : x ≤ 4611686018427387903) : f_u29 k r x = some (img r x) := by
  unfold f_u29 img
  cases r.2.2
  · rw [cond_false, wrap_id (by omega) (by omega), if_neg (by decide)]
  · rw [cond_true, wrap_id (by omega) (by omega), if_pos rfl]
theorem iso_image_v (k : Nat) (r : Rn) (x : Int) (h1 : -4611686018427387904 ≤ r.1) (h2 : r.1 ≤ 4611686018427387903) (h3 : -4611686018427387904 ≤ x) (h4 : x ≤ 4611686018427387903) : v_u29 k r x = img r x := by
  unfold v_u29; rw [iso_image_s k r x h1 h2 h3 h4]; rfl
theorem ref13_image_s (k : Nat) (r : Rn) (x : Int) (h1 : -4611686018427387904 ≤ r.1) (h2 : r.1 ≤ 4611686018427387903) (h3 : -4611686018427387904 ≤ x) (h4 : x ≤ 4611686018427387903) : f_u58 k r x = some (img r x) := by
  unfold f_u58 img
  cases r.2.2
  · rw [cond_false, wrap_id (by omega) (by omega), if_neg (by decide)]
  · rw [cond_true, wrap_id (by omega) (by omega), if_pos rfl]
theorem ref13_image_v (k : Nat) (r : Rn) (x : Int) (h1 : -4611686018427387904 ≤ r.1) (h2 : r.1 ≤ 4611686018427387903) (h3 : -4611686018427387904 ≤ x) (h4 : x ≤ 4611686018427387903) : v_u58 k r x = img r x := by
  unfold v_u58; rw [ref13_image_s k r x h1 h2 h3 h4]; rfl

/-- a test of a run alone, as the program has it -/
theorem good_test {r : Rn} : good r ↔ ¬ ((decide (r.2.1 < 1) || decide (r.2.1 > 17179869184) || decide (r.1 < 0) || decide (r.1 ≥ 17179869184)) = true) ∧ ¬ ((r.2.2 && decide (r.1 - r.2.1 + 1 < 0) || (!r.2.2) && decide (r.1 + r.2.1 > 17179869184)) = true) := by
  unfold good
  simp only [Bool.or_eq_true, decide_eq_true_eq, Bool.and_eq_true, Bool.not_eq_true', not_or, not_and]
  constructor
  · rintro ⟨h1, h2, h3, h4, h5, h6⟩
    refine ⟨⟨⟨⟨by omega, by omega⟩, by omega⟩, by omega⟩, fun h => ?_, fun h => ?_⟩
    · have := h5 h; omega
    · have := h6 h; omega
  · rintro ⟨⟨⟨⟨h1, h2⟩, h3⟩, h4⟩, h5, h6⟩
    refine ⟨by omega, by omega, by omega, by omega, fun h => ?_, fun h => ?_⟩
    · have := h5 h; omega
    · have := h6 h; omega

/-- the error of a map, run by run -/
def chkGo : Int → List Rn → Int
  | n, [] => if n > 17179869184 then 21 else 0
  | n, r :: t => if good r then chkGo (n + r.2.1) t else 1
theorem chkGo_eq : ∀ (m : List Rn) (n : Int), chkGo n m = if goods m then (if n + lenS m > 17179869184 then 21 else 0) else 1
  | [], n => by simp [chkGo, goods, lenS]
  | r :: t, n => by
    unfold chkGo
    by_cases h : good r
    · rw [if_pos h, chkGo_eq t]
      by_cases h2 : goods t
      · rw [if_pos h2, if_pos (show goods (r :: t) from ⟨h, h2⟩)]
        rw [show n + lenS (r :: t) = n + r.2.1 + lenS t by simp only [lenS]; omega]
      · rw [if_neg h2, if_neg (fun h3 : goods (r :: t) => h2 h3.2)]
    · rw [if_neg h, if_neg (fun h3 : goods (r :: t) => h h3.1)]
theorem chk_go (m : List Rn) : chk m = if m.length > 256 then 8 else chkGo 0 m := by
  unfold chk; rw [chkGo_eq, Int.zero_add]

theorem iso_Check_l (k : Nat) (m : List Rn) (hm : m.length ≤ 256) : ∀ (j i : Nat) (n : Int), i ≤ m.length → m.length - i < j → 0 ≤ n → n ≤ (i : Int) * 17179869184 →
    f_u17_5 k j n m (m.length : Int) (i : Int) = some (chkGo n (m.drop i)) := by
  intro j
  induction j with
  | zero => intros; omega
  | succ j ih =>
    intro i n hi hj h0 hn
    unfold f_u17_5
    by_cases h : i < m.length
    · rw [decide_eq_true (by omega : (i : Int) < (m.length : Int)), cond_true, if_pos ⟨by omega, by omega⟩, drop_cons' m i T0.dflt h]
      rw [Int.toNat_natCast]
      unfold chkGo
      by_cases hg : good (m.getD i T0.dflt)
      · obtain ⟨t1, t2⟩ := good_test.1 hg
        have hr := hg
        obtain ⟨g1, g2, g3, g4, _, _⟩ := hr
        rw [if_pos hg, Bool.eq_false_iff.2 t1, cond_false, wrap_id (i := (m.getD i T0.dflt).fst - (m.getD i T0.dflt).snd.fst) (by omega) (by omega), wrap_id (i := (m.getD i T0.dflt).fst - (m.getD i T0.dflt).snd.fst + 1) (by omega) (by omega), wrap_id (i := (m.getD i T0.dflt).fst + (m.getD i T0.dflt).snd.fst) (by omega) (by omega), Bool.eq_false_iff.2 t2, cond_false, wrap_id (i := n + (m.getD i T0.dflt).snd.fst) (by omega) (by omega), wrapS i (by omega)]
        exact ih (i + 1) _ (by omega) (by omega) (by omega) (by omega)
      · rw [if_neg hg]
        by_cases t1 : (decide ((m.getD i T0.dflt).2.1 < 1) || decide ((m.getD i T0.dflt).2.1 > 17179869184) || decide ((m.getD i T0.dflt).1 < 0) || decide ((m.getD i T0.dflt).1 ≥ 17179869184)) = true
        · rw [t1, cond_true]
        · have t2 := fun t2 => hg (good_test.2 ⟨t1, t2⟩)
          have t2 := Classical.not_not.1 t2
          have t3 := t1
          simp only [Bool.or_eq_true, decide_eq_true_eq, not_or] at t3
          obtain ⟨⟨⟨q1, q2⟩, q3⟩, q4⟩ := t3
          rw [Bool.eq_false_iff.2 t1, cond_false, wrap_id (i := (m.getD i T0.dflt).fst - (m.getD i T0.dflt).snd.fst) (by omega) (by omega), wrap_id (i := (m.getD i T0.dflt).fst - (m.getD i T0.dflt).snd.fst + 1) (by omega) (by omega), wrap_id (i := (m.getD i T0.dflt).fst + (m.getD i T0.dflt).snd.fst) (by omega) (by omega), t2, cond_true]
    · rw [decide_eq_false (by omega : ¬ (i : Int) < (m.length : Int)), cond_false, drop_all m i (by omega)]
      unfold chkGo
      by_cases h : n > 17179869184
      · rw [decide_eq_true h, cond_true, if_pos h]
      · rw [decide_eq_false h, cond_false, if_neg h]
theorem iso_Check_s (k : Nat) (hk : 300 ≤ k) (m : List Rn) : f_u17 k m = some (chk m) := by
  unfold f_u17
  rw [chk_go]
  by_cases h : m.length > 256
  · rw [decide_eq_true (by omega : (m.length : Int) > 256), cond_true, if_pos h]
  · rw [decide_eq_false (by omega : ¬ (m.length : Int) > 256), cond_false, if_neg h]
    exact iso_Check_l k m (by omega) k 0 0 (by omega) (by omega) (by omega) (by omega)
theorem iso_Check_v (k : Nat) (hk : 300 ≤ k) (m : List Rn) : v_u17 k m = chk m := by
  unfold v_u17; rw [iso_Check_s k hk]; rfl

theorem iso_length_l (k : Nat) (m : List Rn) (hg : goods m) (hm : m.length ≤ 1000) : ∀ (j i : Nat) (n : Int), i ≤ m.length → m.length - i < j → 0 ≤ n → n ≤ (i : Int) * 17179869184 →
    f_u31_3 k j n m (m.length : Int) (i : Int) = some (n + lenS (m.drop i)) := by
  intro j
  induction j with
  | zero => intros; omega
  | succ j ih =>
    intro i n hi hj h0 hn
    unfold f_u31_3
    by_cases h : i < m.length
    · have hgr : good (m.getD i T0.dflt) := hg.mem _ (by simp [h])
      rw [decide_eq_true (by omega : (i : Int) < (m.length : Int)), cond_true, if_pos ⟨by omega, by omega⟩, drop_cons' m i T0.dflt h]
      rw [Int.toNat_natCast]
      generalize m.getD i T0.dflt = r at hgr
      obtain ⟨g1, g2, _⟩ := hgr
      rw [wrap_id (i := n + r.snd.fst) (by omega) (by omega), wrapS i (by omega), ih (i + 1) _ (by omega) (by omega) (by omega) (by omega)]
      simp only [lenS, Int.add_assoc]
    · rw [decide_eq_false (by omega : ¬ (i : Int) < (m.length : Int)), cond_false, drop_all m i (by omega)]
      simp [lenS]
theorem iso_length_s (k : Nat) (m : List Rn) (hg : goods m) (hm : m.length ≤ 1000) (hk : m.length < k) : f_u31 k m = some (lenS m) := by
  unfold f_u31
  have := iso_length_l k m hg hm k 0 0 (by omega) (by omega) (by omega) (by omega)
  rw [Int.zero_add] at this
  exact this
theorem iso_length_v (k : Nat) (m : List Rn) (hg : goods m) (hm : m.length ≤ 1000) (hk : m.length < k) : v_u31 k m = lenS m := by
  unfold v_u31; rw [iso_length_s k m hg hm hk]; rfl

theorem ref13_good_s (k : Nat) (r : Rn) : f_u57 k r = some (decide (good r)) := by
  unfold f_u57
  by_cases t1 : (decide (r.2.1 < 1) || decide (r.2.1 > 17179869184) || decide (r.1 < 0) || decide (r.1 ≥ 17179869184)) = true
  · rw [t1, cond_true, decide_eq_false (fun h => (good_test.1 h).1 t1)]
  · rw [Bool.eq_false_iff.2 t1, cond_false]
    have t3 := t1
    simp only [Bool.or_eq_true, decide_eq_true_eq, not_or] at t3
    obtain ⟨⟨⟨q1, q2⟩, q3⟩, q4⟩ := t3
    rw [wrap_id (i := r.fst - r.snd.fst) (by omega) (by omega), wrap_id (i := r.fst - r.snd.fst + 1) (by omega) (by omega), wrap_id (i := r.fst + r.snd.fst) (by omega) (by omega)]
    cases hb : r.snd.snd
    · rw [cond_false]
      congr 1
      apply decide_eq_decide.2
      constructor
      · intro h
        exact ⟨by omega, by omega, by omega, by omega, fun e => by simp [hb] at e, fun _ => h⟩
      · rintro ⟨_, _, _, _, _, h⟩
        exact h hb
    · rw [cond_true]
      congr 1
      apply decide_eq_decide.2
      constructor
      · intro h
        exact ⟨by omega, by omega, by omega, by omega, fun _ => h, fun e => by simp [hb] at e⟩
      · rintro ⟨_, _, _, _, h, _⟩
        exact h hb
theorem ref13_good_v (k : Nat) (r : Rn) : v_u57 k r = decide (good r) := by
  unfold v_u57; rw [ref13_good_s]; rfl

theorem ref13_length_l (k : Nat) (m : List Rn) (hg : goods m) (hm : m.length ≤ 1000) : ∀ (j i : Nat) (n : Int), i ≤ m.length → m.length - i < j → 0 ≤ n → n ≤ (i : Int) * 17179869184 →
    f_u59_3 k j m n (i : Int) = some (n + lenS (m.drop i)) := by
  intro j
  induction j with
  | zero => intros; omega
  | succ j ih =>
    intro i n hi hj h0 hn
    unfold f_u59_3
    by_cases h : i < m.length
    · have hgr : good (m.getD i T0.dflt) := hg.mem _ (by simp [h])
      rw [decide_eq_true (by omega : (i : Int) < (m.length : Int)), cond_true, if_pos ⟨by omega, by omega⟩, drop_cons' m i T0.dflt h]
      rw [Int.toNat_natCast]
      generalize m.getD i T0.dflt = r at hgr
      obtain ⟨g1, g2, _⟩ := hgr
      rw [wrap_id (i := n + r.snd.fst) (by omega) (by omega), wrapS i (by omega), ih (i + 1) _ (by omega) (by omega) (by omega) (by omega)]
      simp only [lenS, Int.add_assoc]
    · rw [decide_eq_false (by omega : ¬ (i : Int) < (m.length : Int)), cond_false, drop_all m i (by omega)]
      simp [lenS]
theorem ref13_length_s (k : Nat) (m : List Rn) (hg : goods m) (hm : m.length ≤ 1000) (hk : m.length < k) : f_u59 k m = some (lenS m) := by
  unfold f_u59
  have := ref13_length_l k m hg hm k 0 0 (by omega) (by omega) (by omega) (by omega)
  rw [Int.zero_add] at this
  exact this
theorem ref13_length_v (k : Nat) (m : List Rn) (hg : goods m) (hm : m.length ≤ 1000) (hk : m.length < k) : v_u59 k m = lenS m := by
  unfold v_u59; rw [ref13_length_s k m hg hm hk]; rfl

theorem ref13_Check_l (k : Nat) (hk : 300 ≤ k) (m : List Rn) (hm : m.length ≤ 256) : ∀ (j i : Nat), i ≤ m.length → m.length - i < j → goods (m.take i) →
    f_u49_4 k j m (i : Int) = some (if goods m then (if lenS m > 17179869184 then 21 else 0) else 1) := by
  intro j
  induction j with
  | zero => intros; omega
  | succ j ih =>
    intro i hi hj hg
    unfold f_u49_4
    by_cases h : i < m.length
    · rw [decide_eq_true (by omega : (i : Int) < (m.length : Int)), cond_true, ref13_good_s, ref13_good_v, if_pos ⟨by omega, by omega, rfl⟩, Int.toNat_natCast]
      have hmem : m.getD i T0.dflt ∈ m := by simp [h]
      have htk : m.take (i + 1) = m.take i ++ [m.getD i T0.dflt] := by
        rw [List.take_add_one]; simp [h]
      by_cases hgr : good (m.getD i T0.dflt)
      · rw [decide_eq_true hgr, Bool.not_true, cond_false, wrapS i (by omega)]
        exact ih (i + 1) (by omega) (by omega) (by rw [htk, goods_append]; exact ⟨hg, hgr, trivial⟩)
      · rw [decide_eq_false hgr, Bool.not_false, cond_true, if_neg (fun hgs => hgr (goods.mem hgs _ hmem))]
    · have : m.take i = m := List.take_of_length_le (by omega)
      rw [this] at hg
      rw [decide_eq_false (by omega : ¬ (i : Int) < (m.length : Int)), cond_false, ref13_length_s k m hg (by omega) (by omega), ref13_length_v k m hg (by omega) (by omega), Option.isSome_some, if_pos rfl, if_pos hg]
      by_cases h : lenS m > 17179869184
      · rw [decide_eq_true h, cond_true, if_pos h]
      · rw [decide_eq_false h, cond_false, if_neg h]
theorem ref13_Check_s (k : Nat) (hk : 300 ≤ k) (m : List Rn) : f_u49 k m = some (chk m) := by
  unfold f_u49 chk
  by_cases h : m.length > 256
  · rw [decide_eq_true (by omega : (m.length : Int) > 256), cond_true, if_pos h]
  · rw [decide_eq_false (by omega : ¬ (m.length : Int) > 256), cond_false, if_neg h]
    exact ref13_Check_l k hk m (by omega) k 0 (by omega) (by omega) (by simp [goods])
theorem ref13_Check_v (k : Nat) (hk : 300 ≤ k) (m : List Rn) : v_u49 k m = chk m := by
  unfold v_u49; rw [ref13_Check_s k hk]; rfl
/-! ### a normal form with a further run -/
/-- runs of moderate numbers -/
def Bnd (r : Rn) : Prop := -1125899906842624 ≤ r.1 ∧ r.1 ≤ 1125899906842624 ∧ 0 ≤ r.2.1 ∧ r.2.1 ≤ 1125899906842624
theorem good.bnd {r : Rn} (h : good r) : Bnd r := by
  obtain ⟨h1, h2, h3, h4, _⟩ := h
  exact ⟨by omega, by omega, by omega, by omega⟩

theorem addS_nil (r : Rn) (h : ¬ r.2.1 < 1) : addS [] r = [prt r 0 r.2.1] := by
  unfold addS; rw [if_neg h]; rfl
theorem addS_last (pre : List Rn) (c r : Rn) (h : ¬ r.2.1 < 1) : addS (pre ++ [c]) r = (bif apart c r then pre ++ [c] ++ [prt r 0 r.2.1]
      else bif decide (r.2.1 > 1) && !(r.2.2 == (stp c r == -1)) then pre ++ [(c.1, c.2.1 + 1, stp c r == -1), prt r 1 (r.2.1 - 1)]
      else pre ++ [(c.1, c.2.1 + r.2.1, stp c r == -1)]) := by
  unfold addS; rw [if_neg h]; simp
theorem addS_zero (b : List Rn) (r : Rn) (h : r.2.1 < 1) : addS b r = b := by unfold addS; rw [if_pos h]

theorem prt_zero (r : Rn) (n : Int) : prt (prt r 1 n) 0 n = prt r 1 n := by
  unfold prt
  have e : img (img r 1, n, r.2.2 && decide (n > 1)) 0 = img r 1 := by
    unfold img; cases r.2.2 && decide (n > 1) <;> simp
  rw [e]
  simp
theorem prt_bnd {r : Rn} (h : Bnd r) {x n : Int} (h0 : 0 ≤ x) (h1 : x ≤ r.2.1) (h2 : 0 ≤ n) (h3 : n ≤ r.2.1) : -2251799813685248 ≤ (prt r x n).1 ∧ (prt r x n).1 ≤ 2251799813685248 ∧ (prt r x n).2.1 = n := by
  obtain ⟨b1, b2, b3, b4⟩ := h
  unfold prt img
  refine ⟨?_, ?_, rfl⟩ <;> cases r.2.2 <;> simp only [Bool.false_eq_true, if_false, if_true] <;> omega

theorem apart_turn {c r : Rn} (hc : 1 ≤ c.2.1) (h1 : apart c r = false) (h3 : (r.2.2 == (stp c r == -1)) = false) : apart (c.1, c.2.1 + 1, stp c r == -1) (prt r 1 (r.2.1 - 1)) = true := by
  obtain ⟨ca, cl, cb⟩ := c
  obtain ⟨ra, rl, rb⟩ := r
  unfold apart at h1
  simp only [Bool.or_eq_false_iff] at h1
  obtain ⟨h1, h2⟩ := h1
  have hs : stp (ca, cl, cb) (ra, rl, rb) = 1 ∨ stp (ca, cl, cb) (ra, rl, rb) = -1 := by
    generalize stp (ca, cl, cb) (ra, rl, rb) = s at h1
    by_cases e1 : s = 1
    · exact .inl e1
    · by_cases e2 : s = -1
      · exact .inr e2
      · simp [e1, e2] at h1
  have hcl : (1 : Int) ≤ cl := hc
  unfold apart
  rw [Bool.or_eq_true]
  right
  rw [Bool.and_eq_true]
  refine ⟨decide_eq_true (show cl + 1 > 1 by omega), ?_⟩
  rcases hs with hs | hs
  · rw [hs] at h2 h3
    have hrb : rb = true := by cases rb <;> simp_all
    subst hrb
    have hcb : cl > 1 → cb = false := fun h => by
      rw [decide_eq_true (show (ca, cl, cb).2.1 > 1 from h), Bool.true_and] at h2
      cases cb
      · rfl
      · simp at h2
    rw [hs]
    have e : stp (ca, cl + 1, (1 : Int) == -1) (prt (ra, rl, true) 1 (rl - 1)) = -1 := by
      unfold stp img at hs
      unfold stp prt img
      simp only [show ((1 : Int) == -1) = false from rfl, Bool.false_eq_true, if_false, if_true] at hs ⊢
      by_cases hl : cl > 1
      · rw [hcb hl] at hs; simp only [Bool.false_eq_true, if_false] at hs; omega
      · cases cb <;> simp only [Bool.false_eq_true, if_false, if_true] at hs <;> omega
    show (!((stp (ca, cl + 1, (1 : Int) == -1) (prt (ra, rl, true) 1 (rl - 1)) == -1) == ((1 : Int) == -1))) = true
    rw [e]; rfl
  · rw [hs] at h2 h3
    have hrb : rb = false := by cases rb <;> simp_all
    subst hrb
    have hcb : cl > 1 → cb = true := fun h => by
      rw [decide_eq_true (show (ca, cl, cb).2.1 > 1 from h), Bool.true_and] at h2
      cases cb
      · simp at h2
      · rfl
    rw [hs]
    have e : stp (ca, cl + 1, (-1 : Int) == -1) (prt (ra, rl, false) 1 (rl - 1)) = 1 := by
      unfold stp img at hs
      unfold stp prt img
      simp only [show ((-1 : Int) == -1) = true from rfl, Bool.false_eq_true, if_false, if_true] at hs ⊢
      by_cases hl : cl > 1
      · rw [hcb hl] at hs; simp only [if_true] at hs; omega
      · cases cb <;> simp only [Bool.false_eq_true, if_false, if_true] at hs <;> omega
    show (!((stp (ca, cl + 1, (-1 : Int) == -1) (prt (ra, rl, false) 1 (rl - 1)) == -1) == ((-1 : Int) == -1))) = true
    rw [e]; rfl

theorem iso_part_s (k : Nat) (r : Rn) (x n : Int) (h1 : -4611686018427387904 ≤ r.1) (h2 : r.1 ≤ 4611686018427387903) (h3 : -4611686018427387904 ≤ x) (h4 : x ≤ 4611686018427387903) : f_u32 k r x n = some (prt r x n) := by
  unfold f_u32 prt
  rw [iso_image_s k r x h1 h2 h3 h4, iso_image_v k r x h1 h2 h3 h4]; rfl
theorem iso_part_v (k : Nat) (r : Rn) (x n : Int) (h1 : -4611686018427387904 ≤ r.1) (h2 : r.1 ≤ 4611686018427387903) (h3 : -4611686018427387904 ≤ x) (h4 : x ≤ 4611686018427387903) : v_u32 k r x n = prt r x n := by
  unfold v_u32; rw [iso_part_s k r x n h1 h2 h3 h4]; rfl
theorem ref13_cut_s (k : Nat) (r : Rn) (x n : Int) (h1 : -4611686018427387904 ≤ r.1) (h2 : r.1 ≤ 4611686018427387903) (h3 : -4611686018427387904 ≤ x) (h4 : x ≤ 4611686018427387903) : f_u56 k r x n = some (prt r x n) := by
  unfold f_u56 prt
  rw [ref13_image_s k r x h1 h2 h3 h4, ref13_image_v k r x h1 h2 h3 h4]; rfl
theorem ref13_cut_v (k : Nat) (r : Rn) (x n : Int) (h1 : -4611686018427387904 ≤ r.1) (h2 : r.1 ≤ 4611686018427387903) (h3 : -4611686018427387904 ≤ x) (h4 : x ≤ 4611686018427387903) : v_u56 k r x n = prt r x n := by
  unfold v_u56; rw [ref13_cut_s k r x n h1 h2 h3 h4]; rfl

theorem last_idx (pre : List Rn) (c : Rn) (h : pre.length < 4611686018427387904) : (IntKind.i64.wrap (((pre ++ [c]).length : Int) - 1)).toNat = pre.length := by
  rw [List.length_append, List.length_singleton, wrap_id (by omega) (by omega)]; omega
theorem last_get (pre : List Rn) (c d : Rn) : (pre ++ [c]).getD pre.length d = c := by simp
theorem last_set (pre : List Rn) (c d : Rn) : (pre ++ [c]).set pre.length d = pre ++ [d] := by simp

/-- adding where the run begins anew -/
theorem iso_add_new (k : Nat) (pre : List Rn) (c r : Rn) (hl : pre.length ≤ 1000000000) (hr : ¬ r.2.1 < 1) (b1 : -9007199254740992 ≤ r.1 ∧ r.1 ≤ 9007199254740992) (hc : -9007199254740992 ≤ c.1 ∧ c.1 ≤ 9007199254740992 ∧ 1 ≤ c.2.1 ∧ c.2.1 ≤ 9007199254740992) (ha : apart c r = true) :
    f_u25 (k + 1) (pre ++ [c]) r = some (pre ++ [c] ++ [prt r 0 r.2.1]) := by
  have hi := last_idx pre c (by omega)
  have hlen : (pre ++ [c]).length = pre.length + 1 := by simp
  have hst : IntKind.i64.wrap (r.fst - img c (c.snd.fst - 1)) = stp c r := by
    unfold stp
    refine wrap_id ?_ ?_ <;> unfold img <;> cases c.2.2 <;> simp only [Bool.false_eq_true, if_false, if_true] <;> omega
  unfold f_u25
  rw [decide_eq_false hr, cond_false, show (((pre ++ [c]).length : Int) == 0) = false by rw [hlen]; exact beqf (by omega), cond_false, hi, last_get]
  rw [wrap_id (i := c.snd.fst - 1) (by omega) (by omega), iso_image_s k c _ (by omega) (by omega) (by omega) (by omega), iso_image_v k c _ (by omega) (by omega) (by omega) (by omega), hst]
  rw [if_pos (by rw [hlen, wrap_id (by omega) (by omega)]; exact ⟨by omega, by omega⟩), Option.isSome_some, if_pos rfl]
  have ha' : ((stp c r != 1 && stp c r != -1) || decide (c.snd.fst > 1) && !((stp c r == -1) == c.snd.snd)) = true := ha
  rw [ha', cond_true, iso_part_s k r 0 _ (by omega) (by omega) (by omega) (by omega), iso_part_v k r 0 _ (by omega) (by omega) (by omega) (by omega), if_pos ⟨rfl, by rw [hlen, List.length_singleton]; omega⟩]

theorem iso_add_s (k : Nat) (hk : 4 ≤ k) (b : List Rn) (r : Rn) (hl : b.length ≤ 1000000000) (hr : Bnd r) (hb : ∀ c ∈ b, Bnd c ∧ 1 ≤ c.2.1) : f_u25 k b r = some (addS b r) := by
  obtain ⟨k, rfl⟩ : ∃ m, k = m + 1 := ⟨k - 1, by omega⟩
  obtain ⟨r1, r2, r3, r4⟩ := hr
  by_cases h0 : r.2.1 < 1
  · rw [addS_zero _ _ h0]; unfold f_u25; rw [decide_eq_true h0, cond_true]
  rcases List.eq_nil_or_concat b with rfl | ⟨pre, c, rfl⟩
  · rw [addS_nil _ h0]
    unfold f_u25
    rw [decide_eq_false h0, cond_false, show ((([] : List Rn).length : Int) == 0) = true from rfl, cond_true, iso_part_s k r 0 _ (by omega) (by omega) (by omega) (by omega), iso_part_v k r 0 _ (by omega) (by omega) (by omega) (by omega), if_pos ⟨rfl, by simp⟩]
    rfl
  rw [List.concat_eq_append] at *
  obtain ⟨⟨c1, c2, c3, c4⟩, c5⟩ := hb c (by simp)
  have hlen : (pre ++ [c]).length = pre.length + 1 := by simp
  rw [addS_last _ _ _ h0]
  cases ha : apart c r with
  | true =>
    rw [cond_true]
    exact iso_add_new k pre c r (by omega) h0 ⟨by omega, by omega⟩ ⟨by omega, by omega, by omega, by omega⟩ ha
  | false =>
  rw [cond_false]
  have hi := last_idx pre c (by omega)
  have hst : IntKind.i64.wrap (r.fst - img c (c.snd.fst - 1)) = stp c r := by
    unfold stp
    refine wrap_id ?_ ?_ <;> unfold img <;> cases c.2.2 <;> simp only [Bool.false_eq_true, if_false, if_true] <;> omega
  have ha' : ((stp c r != 1 && stp c r != -1) || decide (c.snd.fst > 1) && !((stp c r == -1) == c.snd.snd)) = false := ha
  unfold f_u25
  rw [decide_eq_false h0, cond_false, show (((pre ++ [c]).length : Int) == 0) = false by rw [hlen]; exact beqf (by omega), cond_false, hi, last_get]
  rw [wrap_id (i := c.snd.fst - 1) (by omega) (by omega), iso_image_s k c _ (by omega) (by omega) (by omega) (by omega), iso_image_v k c _ (by omega) (by omega) (by omega) (by omega), hst]
  have hidx : (0 : Int) ≤ IntKind.i64.wrap (((pre ++ [c]).length : Int) - 1) ∧ IntKind.i64.wrap (((pre ++ [c]).length : Int) - 1) < ((pre ++ [c]).length : Int) := by
    rw [hlen, wrap_id (by omega) (by omega)]; exact ⟨by omega, by omega⟩
  rw [if_pos hidx, Option.isSome_some, if_pos rfl, ha', cond_false]
  rw [wrap_id (i := c.snd.fst + r.snd.fst) (by omega) (by omega), wrap_id (i := c.snd.fst + 1) (by omega) (by omega), wrap_id (i := r.snd.fst - r.snd.fst) (by omega) (by omega), wrap_id (i := r.snd.fst - 1) (by omega) (by omega), last_set, last_set]
  rw [iso_part_s k r r.snd.fst _ (by omega) (by omega) (by omega) (by omega), iso_part_v k r r.snd.fst _ (by omega) (by omega) (by omega) (by omega), iso_part_s k r 1 _ (by omega) (by omega) (by omega) (by omega), iso_part_v k r 1 _ (by omega) (by omega) (by omega) (by omega)]
  obtain ⟨k, rfl⟩ : ∃ m, k = m + 1 := ⟨k - 1, by omega⟩
  have z : ∀ (b : List Rn) (r : Rn), r.2.1 < 1 → f_u25 (k + 1) b r = some b := fun b r h => by
    unfold f_u25; rw [decide_eq_true h, cond_true]
  have w : ∀ (b b' : List Rn) (r : Rn), f_u25 (k + 1) b r = some b' → w_u25 (f_u25 (k + 1)) b r = b' := fun b b' r h => by
    unfold w_u25; rw [h]; rfl
  by_cases hone : r.2.1 > 1
  · rw [decide_eq_true hone, Bool.true_and, Bool.true_and]
    cases hd : (r.snd.snd == (stp c r == -1)) with
    | true =>
      rw [cond_true, Bool.not_true, cond_false, if_pos hidx]
      have e := z (pre ++ [(c.fst, c.snd.fst + r.snd.fst, stp c r == -1)]) (prt r r.snd.fst (r.snd.fst - r.snd.fst)) (by show r.snd.fst - r.snd.fst < 1; omega)
      rw [w _ _ _ e, e, if_pos ⟨rfl, rfl⟩]
    | false =>
      rw [cond_false, Bool.not_false, cond_true, if_pos hidx]
      obtain ⟨p1, p2, p3⟩ := prt_bnd (r := r) ⟨r1, r2, r3, r4⟩ (x := 1) (n := r.2.1 - 1) (by omega) (by omega) (by omega) (by omega)
      have e := iso_add_new k pre (c.fst, c.snd.fst + 1, stp c r == -1) (prt r 1 (r.snd.fst - 1)) (by omega) (by rw [p3]; omega) ⟨by omega, by omega⟩ ⟨by show -9007199254740992 ≤ c.1; omega, by show c.1 ≤ 9007199254740992; omega, by show 1 ≤ c.2.1 + 1; omega, by show c.2.1 + 1 ≤ 9007199254740992; omega⟩ (apart_turn c5 ha hd)
      rw [p3, prt_zero] at e
      rw [w _ _ _ e, e, if_pos ⟨rfl, rfl⟩]
      simp
  · have h1 : r.2.1 = 1 := by omega
    rw [decide_eq_false hone, Bool.false_and, Bool.false_and, cond_false, cond_false, if_pos hidx]
    have e := z (pre ++ [(c.fst, c.snd.fst + 1, stp c r == -1)]) (prt r 1 (r.snd.fst - 1)) (by show r.snd.fst - 1 < 1; omega)
    rw [w _ _ _ e, e, if_pos ⟨rfl, rfl⟩, h1]
theorem iso_add_v (k : Nat) (hk : 4 ≤ k) (b : List Rn) (r : Rn) (hl : b.length ≤ 1000000000) (hr : Bnd r) (hb : ∀ c ∈ b, Bnd c ∧ 1 ≤ c.2.1) : v_u25 k b r = addS b r := by
  unfold v_u25; rw [iso_add_s k hk b r hl hr hb]; rfl
theorem ref13_add_new (k j : Nat) (pre : List Rn) (c r : Rn) (hl : pre.length ≤ 1000000000) (hr : ¬ r.2.1 < 1) (b1 : -9007199254740992 ≤ r.1 ∧ r.1 ≤ 9007199254740992) (hc : -9007199254740992 ≤ c.1 ∧ c.1 ≤ 9007199254740992 ∧ 1 ≤ c.2.1 ∧ c.2.1 ≤ 9007199254740992) (ha : apart c r = true) :
    f_u61_2 k (j + 1) r (pre ++ [c]) = some (pre ++ [c] ++ [prt r 0 r.2.1]) := by
  have hi := last_idx pre c (by omega)
  have hlen : (pre ++ [c]).length = pre.length + 1 := by simp
  have hst : IntKind.i64.wrap (r.fst - img c (c.snd.fst - 1)) = stp c r := by
    unfold stp
    refine wrap_id ?_ ?_ <;> unfold img <;> cases c.2.2 <;> simp only [Bool.false_eq_true, if_false, if_true] <;> omega
  have hidx : (0 : Int) ≤ IntKind.i64.wrap (((pre ++ [c]).length : Int) - 1) ∧ IntKind.i64.wrap (((pre ++ [c]).length : Int) - 1) < ((pre ++ [c]).length : Int) := by
    rw [hlen, wrap_id (by omega) (by omega)]; exact ⟨by omega, by omega⟩
  unfold f_u61_2
  rw [decide_eq_true (by omega : r.snd.fst > 0), cond_true, decide_eq_false (by omega : ¬ IntKind.i64.wrap (((pre ++ [c]).length : Int) - 1) < 0), cond_false, hi, last_get]
  rw [wrap_id (i := c.snd.fst - 1) (by omega) (by omega), ref13_image_s k c _ (by omega) (by omega) (by omega) (by omega), ref13_image_v k c _ (by omega) (by omega) (by omega) (by omega), hst]
  rw [if_pos hidx, Option.isSome_some, if_pos rfl]
  have ha' : ((stp c r != 1 && stp c r != -1) || decide (c.snd.fst > 1) && !(c.snd.snd == (stp c r == -1))) = true := by
    rw [Bool.beq_comm]; exact ha
  rw [ha', cond_true, ref13_cut_s k r 0 _ (by omega) (by omega) (by omega) (by omega), ref13_cut_v k r 0 _ (by omega) (by omega) (by omega) (by omega), if_pos ⟨rfl, by rw [hlen, List.length_singleton]; omega⟩]

theorem ref13_more_l (k j : Nat) (b : List Rn) (r : Rn) (hl : b.length ≤ 1000000000) (hr : Bnd r) (hb : ∀ c ∈ b, Bnd c ∧ 1 ≤ c.2.1) : f_u61_2 k (j + 2) r b = some (addS b r) := by
  obtain ⟨r1, r2, r3, r4⟩ := hr
  by_cases h0 : r.2.1 < 1
  · rw [addS_zero _ _ h0]; unfold f_u61_2; rw [decide_eq_false (by omega : ¬ r.snd.fst > 0), cond_false]
  rcases List.eq_nil_or_concat b with rfl | ⟨pre, c, rfl⟩
  · rw [addS_nil _ h0]
    unfold f_u61_2
    rw [decide_eq_true (by omega : r.snd.fst > 0), cond_true, show IntKind.i64.wrap ((([] : List Rn).length : Int) - 1) = -1 by rw [List.length_nil, wrap_id (by omega) (by omega)]; rfl, decide_eq_true (by omega : (-1 : Int) < 0), cond_true, ref13_cut_s k r 0 _ (by omega) (by omega) (by omega) (by omega), ref13_cut_v k r 0 _ (by omega) (by omega) (by omega) (by omega), if_pos ⟨rfl, by simp⟩]
    rfl
  rw [List.concat_eq_append] at *
  obtain ⟨⟨c1, c2, c3, c4⟩, c5⟩ := hb c (by simp)
  have hlen : (pre ++ [c]).length = pre.length + 1 := by simp
  rw [addS_last _ _ _ h0]
  cases ha : apart c r with
  | true =>
    rw [cond_true]
    exact ref13_add_new k (j + 1) pre c r (by omega) h0 ⟨by omega, by omega⟩ ⟨by omega, by omega, by omega, by omega⟩ ha
  | false =>
  rw [cond_false]
  have hi := last_idx pre c (by omega)
  have hst : IntKind.i64.wrap (r.fst - img c (c.snd.fst - 1)) = stp c r := by
    unfold stp
    refine wrap_id ?_ ?_ <;> unfold img <;> cases c.2.2 <;> simp only [Bool.false_eq_true, if_false, if_true] <;> omega
  have ha' : ((stp c r != 1 && stp c r != -1) || decide (c.snd.fst > 1) && !(c.snd.snd == (stp c r == -1))) = false := by
    rw [Bool.beq_comm]; exact ha
  have hidx : (0 : Int) ≤ IntKind.i64.wrap (((pre ++ [c]).length : Int) - 1) ∧ IntKind.i64.wrap (((pre ++ [c]).length : Int) - 1) < ((pre ++ [c]).length : Int) := by
    rw [hlen, wrap_id (by omega) (by omega)]; exact ⟨by omega, by omega⟩
  rw [f_u61_2]
  rw [decide_eq_true (by omega : r.snd.fst > 0), cond_true, decide_eq_false (by omega : ¬ IntKind.i64.wrap (((pre ++ [c]).length : Int) - 1) < 0), cond_false, hi, last_get]
  rw [wrap_id (i := c.snd.fst - 1) (by omega) (by omega), ref13_image_s k c _ (by omega) (by omega) (by omega) (by omega), ref13_image_v k c _ (by omega) (by omega) (by omega) (by omega), hst]
  rw [if_pos hidx, Option.isSome_some, if_pos rfl, ha', cond_false]
  rw [wrap_id (i := c.snd.fst + r.snd.fst) (by omega) (by omega), wrap_id (i := c.snd.fst + 1) (by omega) (by omega), wrap_id (i := r.snd.fst - r.snd.fst) (by omega) (by omega), wrap_id (i := r.snd.fst - 1) (by omega) (by omega), last_set, last_set]
  rw [ref13_cut_s k r 1 _ (by omega) (by omega) (by omega) (by omega), ref13_cut_v k r 1 _ (by omega) (by omega) (by omega) (by omega)]
  cases hd : (decide (r.snd.fst > 1) && !(r.snd.snd == (stp c r == -1))) with
  | true =>
    rw [cond_true, cond_true, if_pos hidx]
    simp only [Bool.and_eq_true, decide_eq_true_eq] at hd
    obtain ⟨hone, hd⟩ := hd
    have hd : (r.2.2 == (stp c r == -1)) = false := by
      cases e : (r.2.2 == (stp c r == -1)) with
      | false => rfl
      | true => rw [show r.snd.snd = r.2.2 from rfl, e] at hd; cases hd
    rw [show ((1 : Int) == r.snd.fst) = false by exact beqf (by omega), cond_false, Option.isSome_some, if_pos rfl]
    obtain ⟨p1, p2, p3⟩ := prt_bnd (r := r) ⟨r1, r2, r3, r4⟩ (x := 1) (n := r.2.1 - 1) (by omega) (by omega) (by omega) (by omega)
    have e := ref13_add_new k j pre (c.fst, c.snd.fst + 1, stp c r == -1) (prt r 1 (r.snd.fst - 1)) (by omega) (by rw [p3]; omega) ⟨by omega, by omega⟩ ⟨by show -9007199254740992 ≤ c.1; omega, by show c.1 ≤ 9007199254740992; omega, by show 1 ≤ c.2.1 + 1; omega, by show c.2.1 + 1 ≤ 9007199254740992; omega⟩ (apart_turn c5 ha hd)
    rw [p3, prt_zero] at e
    rw [e]
    simp
  | false =>
    rw [cond_false, cond_false, if_pos hidx, beq_self_eq_true, cond_true]
theorem ref13_more_s (k : Nat) (hk : 4 ≤ k) (b : List Rn) (r : Rn) (hl : b.length ≤ 1000000000) (hr : Bnd r) (hb : ∀ c ∈ b, Bnd c ∧ 1 ≤ c.2.1) : f_u61 k b r = some (addS b r) := by
  unfold f_u61
  rw [if_pos (by omega), List.nil_append]
  obtain ⟨j, rfl⟩ : ∃ m, k = m + 2 := ⟨k - 2, by omega⟩
  exact ref13_more_l _ j b r hl hr hb
theorem ref13_more_v (k : Nat) (hk : 4 ≤ k) (b : List Rn) (r : Rn) (hl : b.length ≤ 1000000000) (hr : Bnd r) (hb : ∀ c ∈ b, Bnd c ∧ 1 ≤ c.2.1) : v_u61 k b r = addS b r := by
  unfold v_u61; rw [ref13_more_s k hk b r hl hr hb]; rfl
end Go.AM
namespace Go.AM
open Go

theorem good_iff {r : Rn} : good r ↔ 1 ≤ r.2.1 ∧ 0 ≤ lo r ∧ hi r < 17179869184 := by
  unfold good lo hi
  cases r.2.2
  · simp only [Bool.false_eq_true, if_false]
    constructor
    · rintro ⟨h1, h2, h3, h4, _, h6⟩
      have := h6 trivial
      omega
    · rintro ⟨h1, h2, h3⟩
      refine ⟨by omega, by omega, by omega, by omega, fun h => h.elim, fun _ => by omega⟩
  · simp only [if_true]
    constructor
    · rintro ⟨h1, h2, h3, h4, h5, _⟩
      have := h5 trivial
      omega
    · rintro ⟨h1, h2, h3⟩
      refine ⟨by omega, by omega, by omega, by omega, fun _ => by omega, fun h => by cases h⟩

theorem imgAt_append : ∀ (a b : List Rn) (x : Int), goods a → 0 ≤ x → imgAt (a ++ b) x = if x < lenS a then imgAt a x else imgAt b (x - lenS a)
  | [], b, x, _, h0 => by simp only [List.nil_append, lenS, if_neg (by omega : ¬ x < 0), Int.sub_zero]
  | r :: t, b, x, hg, h0 => by
    have hr := hg.1.1
    have ht := lenS_nonneg hg.2
    show (if x < r.2.1 then img r x else imgAt (t ++ b) (x - r.2.1)) = if x < r.2.1 + lenS t then (if x < r.2.1 then img r x else imgAt t (x - r.2.1)) else imgAt b (x - (r.2.1 + lenS t))
    by_cases h : x < r.2.1
    · rw [if_pos h, if_pos (by omega), if_pos h]
    · rw [if_neg h, imgAt_append t b _ hg.2 (by omega)]
      by_cases h2 : x - r.2.1 < lenS t
      · rw [if_pos h2, if_pos (by omega), if_neg h]
      · rw [if_neg h2, if_neg (by omega), Int.sub_sub]

/-- integers of a run: their images -/
theorem prt_img {r : Rn} {x n y : Int} (h0 : 0 ≤ y) (h1 : y < n) : img (prt r x n) y = img r (x + y) := by
  unfold prt img
  by_cases h : n > 1
  · rw [decide_eq_true h, Bool.and_true]
    cases r.2.2 <;> simp only [Bool.false_eq_true, if_false, if_true] <;> omega
  · have : y = 0 := by omega
    subst this
    cases r.2.2 && decide (n > 1) <;> simp
theorem prt_good {r : Rn} (h : good r) {x n : Int} (h0 : 0 ≤ x) (h1 : 1 ≤ n) (h2 : x + n ≤ r.2.1) : good (prt r x n) := by
  rw [good_iff] at h ⊢
  obtain ⟨g1, g2, g3⟩ := h
  have e1 := img_mem (r := r) (x := x) (by omega) (by omega)
  have e2 := img_mem (r := r) (x := x + n - 1) (by omega) (by omega)
  refine ⟨h1, ?_, ?_⟩
  · unfold prt lo
    by_cases h : n > 1
    · rw [decide_eq_true h, Bool.and_true]
      unfold img at e1 e2 ⊢
      cases hb : r.2.2 <;> rw [hb] at e1 e2 <;> simp only [Bool.false_eq_true, if_false, if_true] at e1 e2 ⊢ <;> omega
    · rw [decide_eq_false h, Bool.and_false]
      simp only [Bool.false_eq_true, if_false]; omega
  · unfold prt hi
    by_cases h : n > 1
    · rw [decide_eq_true h, Bool.and_true]
      unfold img at e1 e2 ⊢
      cases hb : r.2.2 <;> rw [hb] at e1 e2 <;> simp only [Bool.false_eq_true, if_false, if_true] at e1 e2 ⊢ <;> omega
    · rw [decide_eq_false h, Bool.and_false]
      simp only [Bool.false_eq_true, if_false]; omega

theorem stp_of {c r : Rn} (h : apart c r = false) : stp c r = 1 ∨ stp c r = -1 := by
  unfold apart at h
  simp only [Bool.or_eq_false_iff] at h
  generalize stp c r = s at h
  by_cases e1 : s = 1
  · exact .inl e1
  · by_cases e2 : s = -1
    · exact .inr e2
    · have := h.1; simp [e1, e2] at this
theorem back_of {c r : Rn} (h : apart c r = false) (hc : c.2.1 > 1) : c.2.2 = (stp c r == -1) := by
  unfold apart at h
  simp only [Bool.or_eq_false_iff] at h
  have h2 := h.2
  rw [decide_eq_true hc, Bool.true_and] at h2
  cases e : c.2.2 <;> cases e2 : (stp c r == -1) <;> simp_all

/-- a run that takes n integers of the next one -/
theorem grow_img {c r : Rn} (hc : 1 ≤ c.2.1) (h : apart c r = false) {n : Int} (hn : n > 1 → r.2.2 = (stp c r == -1)) {x : Int} (h0 : 0 ≤ x) (h1 : x < c.2.1 + n) :
    img (c.1, c.2.1 + n, stp c r == -1) x = if x < c.2.1 then img c x else img r (x - c.2.1) := by
  have hb := back_of (c := c) (r := r) h
  have hstp : stp c r = r.1 - img c (c.2.1 - 1) := rfl
  rcases stp_of h with hs | hs
  · rw [hs] at hb hn hstp ⊢
    have hf : ((1 : Int) == -1) = false := rfl
    rw [hf] at hb hn ⊢
    unfold img at hstp ⊢
    simp only [Bool.false_eq_true, if_false]
    by_cases hx : x < c.2.1
    · rw [if_pos hx]
      by_cases hc1 : c.2.1 > 1
      · rw [hb hc1]; simp
      · have : x = 0 := by omega
        subst this; cases c.2.2 <;> simp
    · rw [if_neg hx]
      have e1 : r.1 = c.1 + c.2.1 := by
        by_cases hc1 : c.2.1 > 1
        · rw [hb hc1] at hstp; simp only [Bool.false_eq_true, if_false] at hstp; omega
        · cases e : c.2.2 <;> rw [e] at hstp <;> simp only [Bool.false_eq_true, if_false, if_true] at hstp <;> omega
      by_cases hn1 : n > 1
      · rw [hn hn1]; simp only [Bool.false_eq_true, if_false]; omega
      · cases r.2.2 <;> simp only [Bool.false_eq_true, if_false, if_true] <;> omega
  · rw [hs] at hb hn hstp ⊢
    have hf : ((-1 : Int) == -1) = true := rfl
    rw [hf] at hb hn ⊢
    unfold img at hstp ⊢
    simp only [if_true]
    by_cases hx : x < c.2.1
    · rw [if_pos hx]
      by_cases hc1 : c.2.1 > 1
      · rw [hb hc1]; simp
      · have : x = 0 := by omega
        subst this; cases c.2.2 <;> simp
    · rw [if_neg hx]
      have e1 : r.1 = c.1 - c.2.1 := by
        by_cases hc1 : c.2.1 > 1
        · rw [hb hc1] at hstp; simp only [if_true] at hstp; omega
        · cases e : c.2.2 <;> rw [e] at hstp <;> simp only [Bool.false_eq_true, if_false, if_true] at hstp <;> omega
      by_cases hn1 : n > 1
      · rw [hn hn1]; simp only [if_true]; omega
      · cases r.2.2 <;> simp only [Bool.false_eq_true, if_false, if_true] <;> omega

theorem good_of_ends {r : Rn} (h1 : 1 ≤ r.2.1) (a : 0 ≤ img r 0 ∧ img r 0 < 17179869184) (b : 0 ≤ img r (r.2.1 - 1) ∧ img r (r.2.1 - 1) < 17179869184) : good r := by
  rw [good_iff]
  unfold img at a b
  unfold lo hi
  cases hb : r.2.2 <;> rw [hb] at a b <;> simp only [Bool.false_eq_true, if_false, if_true] at a b ⊢ <;> omega
theorem good_img {r : Rn} (h : good r) {x : Int} (h0 : 0 ≤ x) (h1 : x < r.2.1) : 0 ≤ img r x ∧ img r x < 17179869184 := by
  have := img_mem (r := r) h0 h1
  have h := good_iff.1 h
  omega

theorem grow_good {c r : Rn} (hc : good c) (hr : good r) (h : apart c r = false) {n : Int} (hn0 : 1 ≤ n) (hn1 : n ≤ r.2.1) (hn : n > 1 → r.2.2 = (stp c r == -1)) : good (c.1, c.2.1 + n, stp c r == -1) := by
  have hc1 := hc.1
  refine good_of_ends (by show 1 ≤ c.2.1 + n; omega) ?_ ?_
  · rw [grow_img hc1 h hn (by omega) (by omega), if_pos (by omega)]
    exact good_img hc (by omega) (by omega)
  · show 0 ≤ img (c.1, c.2.1 + n, stp c r == -1) (c.2.1 + n - 1) ∧ img (c.1, c.2.1 + n, stp c r == -1) (c.2.1 + n - 1) < 17179869184
    rw [grow_img hc1 h hn (by omega) (by omega), if_neg (by omega)]
    exact good_img hr (by omega) (by omega)

/-- what a further run makes of a normal form -/
theorem addS_spec (b : List Rn) (r : Rn) (hb : goods b) (hr : good r) : goods (addS b r) ∧ lenS (addS b r) = lenS b + r.2.1 ∧ ∀ x, 0 ≤ x → x < lenS b + r.2.1 → imgAt (addS b r) x = imgAt (b ++ [r]) x := by
  have hr1 := hr.1
  have last1 : ∀ (x : Int), x < r.2.1 → imgAt [r] x = img r x := fun x h => by simp only [imgAt, if_pos h]
  have p0 : ∀ x, 0 ≤ x → x < r.2.1 → img (prt r 0 r.2.1) x = img r x := fun x h0 h1 => by rw [prt_img h0 h1, Int.zero_add]
  have hp : good (prt r 0 r.2.1) := prt_good hr (by omega) hr1 (by omega)
  have new : ∀ b : List Rn, goods b → goods (b ++ [prt r 0 r.2.1]) ∧ lenS (b ++ [prt r 0 r.2.1]) = lenS b + r.2.1 ∧ ∀ x, 0 ≤ x → x < lenS b + r.2.1 → imgAt (b ++ [prt r 0 r.2.1]) x = imgAt (b ++ [r]) x := fun b hb => by
    refine ⟨(goods_append _ _).2 ⟨hb, hp, trivial⟩, ?_, fun x h0 h1 => ?_⟩
    · rw [lenS_append]; simp only [lenS]; show lenS b + (r.2.1 + 0) = _; omega
    · rw [imgAt_append _ _ _ hb h0, imgAt_append _ _ _ hb h0]
      by_cases h : x < lenS b
      · rw [if_pos h, if_pos h]
      · rw [if_neg h, if_neg h, last1 _ (by omega)]
        have hlt : x - lenS b < (prt r 0 r.2.1).2.1 := by show x - lenS b < r.2.1; omega
        simp only [imgAt, if_pos hlt]
        exact p0 _ (by omega) (by omega)
  have h0 : ¬ r.2.1 < 1 := by omega
  rcases List.eq_nil_or_concat b with rfl | ⟨pre, c, rfl⟩
  · unfold addS
    rw [if_neg h0]
    exact new [] trivial
  rw [List.concat_eq_append] at *
  obtain ⟨hpre, hc, _⟩ := (goods_append _ _).1 hb
  have hc1 := hc.1
  have hlc : lenS (pre ++ [c]) = lenS pre + c.2.1 := by rw [lenS_append]; simp only [lenS]; omega
  have e : addS (pre ++ [c]) r = (bif apart c r then pre ++ [c] ++ [prt r 0 r.2.1]
      else bif decide (r.2.1 > 1) && !(r.2.2 == (stp c r == -1)) then pre ++ [(c.1, c.2.1 + 1, stp c r == -1), prt r 1 (r.2.1 - 1)]
      else pre ++ [(c.1, c.2.1 + r.2.1, stp c r == -1)]) := by
    unfold addS; rw [if_neg h0]; simp
  rw [e]
  cases ha : apart c r with
  | true => rw [cond_true]; exact new _ hb
  | false =>
  rw [cond_false]
  have old : ∀ x, 0 ≤ x → x < lenS (pre ++ [c]) + r.2.1 → imgAt (pre ++ [c] ++ [r]) x = if x < lenS pre then imgAt pre x else if x - lenS pre < c.2.1 then img c (x - lenS pre) else img r (x - lenS pre - c.2.1) := fun x hx0 hx1 => by
    rw [List.append_assoc, imgAt_append _ _ _ hpre hx0]
    by_cases h : x < lenS pre
    · rw [if_pos h, if_pos h]
    · rw [if_neg h, if_neg h]
      simp only [List.cons_append, List.nil_append, imgAt]
      by_cases h2 : x - lenS pre < c.2.1
      · rw [if_pos h2, if_pos h2]
      · rw [if_neg h2, if_neg h2, if_pos (by omega)]
  cases hd : (decide (r.2.1 > 1) && !(r.2.2 == (stp c r == -1))) with
  | true =>
    rw [cond_true]
    simp only [Bool.and_eq_true, decide_eq_true_eq] at hd
    have hn : (1 : Int) > 1 → r.2.2 = (stp c r == -1) := fun h => by omega
    have hg := grow_good hc hr ha (n := 1) (by omega) (by omega) hn
    have hq : good (prt r 1 (r.2.1 - 1)) := prt_good hr (by omega) (by omega) (by omega)
    refine ⟨(goods_append _ _).2 ⟨hpre, hg, hq, trivial⟩, ?_, fun x hx0 hx1 => ?_⟩
    · rw [lenS_append, hlc]
      simp only [lenS]
      show lenS pre + (c.2.1 + 1 + (r.2.1 - 1 + 0)) = _
      omega
    · rw [old x hx0 hx1, imgAt_append _ _ _ hpre hx0]
      by_cases h : x < lenS pre
      · rw [if_pos h, if_pos h]
      · rw [if_neg h, if_neg h]
        simp only [imgAt]
        show (if x - lenS pre < c.2.1 + 1 then _ else if x - lenS pre - (c.2.1 + 1) < r.2.1 - 1 then _ else _) = _
        by_cases h2 : x - lenS pre < c.2.1 + 1
        · rw [if_pos h2, grow_img hc1 ha hn (by omega) h2]
        · rw [if_neg h2, if_pos (by omega), if_neg (by omega), prt_img (by omega) (by omega)]
          congr 1; omega
  | false =>
    rw [cond_false]
    have hn : r.2.1 > 1 → r.2.2 = (stp c r == -1) := fun h => by
      rw [decide_eq_true h, Bool.true_and] at hd
      cases e : r.2.2 <;> cases e2 : (stp c r == -1) <;> simp_all
    have hg := grow_good hc hr ha (n := r.2.1) (by omega) (by omega) hn
    refine ⟨(goods_append _ _).2 ⟨hpre, hg, trivial⟩, ?_, fun x hx0 hx1 => ?_⟩
    · rw [lenS_append, hlc]
      simp only [lenS]
      show lenS pre + (c.2.1 + r.2.1 + 0) = _
      omega
    · rw [old x hx0 hx1, imgAt_append _ _ _ hpre hx0]
      by_cases h : x < lenS pre
      · rw [if_pos h, if_pos h]
      · rw [if_neg h, if_neg h]
        simp only [imgAt]
        show (if x - lenS pre < c.2.1 + r.2.1 then _ else _) = _
        rw [if_pos (by omega), grow_img hc1 ha hn (by omega) (by omega)]

theorem adds_spec : ∀ (l b : List Rn), goods b → goods l → goods (adds b l) ∧ lenS (adds b l) = lenS b + lenS l ∧ ∀ x, 0 ≤ x → x < lenS b + lenS l → imgAt (adds b l) x = imgAt (b ++ l) x
  | [], b, hb, _ => by simp [adds, lenS, hb]
  | r :: t, b, hb, ⟨hr, ht⟩ => by
    obtain ⟨a1, a2, a3⟩ := addS_spec b r hb hr
    obtain ⟨b1, b2, b3⟩ := adds_spec t (addS b r) a1 ht
    have hr1 := hr.1
    have hb0 := lenS_nonneg hb
    have ht0 := lenS_nonneg ht
    refine ⟨b1, by show lenS (adds (addS b r) t) = _; rw [b2, a2]; simp only [lenS]; omega, fun x h0 h1 => ?_⟩
    show imgAt (adds (addS b r) t) x = _
    simp only [lenS] at h1
    rw [b3 x h0 (by rw [a2]; omega), imgAt_append _ _ _ a1 h0, a2, show b ++ r :: t = b ++ [r] ++ t by simp, imgAt_append (b ++ [r]) _ _ ((goods_append _ _).2 ⟨hb, hr, trivial⟩) h0, lenS_append, show lenS [r] = r.2.1 by simp [lenS]]
    by_cases h : x < lenS b + r.2.1
    · rw [if_pos h, if_pos h, a3 x h0 h]
    · rw [if_neg h, if_neg h]

theorem pieces_spec : ∀ (m : List Rn) (a b : Int), goods m → a < b → b ≤ lenS m → 0 ≤ b →
    goods (pieces m a b) ∧ lenS (pieces m a b) = b - max a 0 ∧ ∀ x, 0 ≤ x → x < b - max a 0 → imgAt (pieces m a b) x = imgAt m (max a 0 + x)
  | [], a, b, _, h1, h2, h3 => by
    simp only [lenS] at h2
    refine ⟨trivial, by simp only [pieces, lenS]; omega, fun x h0 hx => by omega⟩
  | r :: t, a, b, ⟨hr, ht⟩, h1, h2, h3 => by
    have hr1 := hr.1
    have ht0 := lenS_nonneg ht
    simp only [lenS] at h2
    by_cases hb : b - r.2.1 ≤ 0
    · -- the end lies within the first run
      have hnil : pieces t (a - r.2.1) (b - r.2.1) = [] := by
        have : ∀ (t : List Rn) (a b : Int), b ≤ 0 → goods t → pieces t a b = [] := fun t => by
          induction t with
          | nil => intros; rfl
          | cons u v ih =>
            intro a b hb hg
            have := hg.1.1
            simp only [pieces]
            rw [if_neg (by omega), ih _ _ (by omega) hg.2]; rfl
        exact this t _ _ hb ht
      simp only [pieces, hnil, List.append_nil]
      by_cases hc : max a 0 < min b r.2.1
      · rw [if_pos hc]
        refine ⟨⟨prt_good hr (by omega) (by omega) (by omega), trivial⟩, ?_, fun x h0 hx => ?_⟩
        · simp only [lenS]; show min b r.2.1 - max a 0 + 0 = _; omega
        · have hlt : x < min b r.2.1 - max a 0 := by omega
          show (if x < min b r.2.1 - max a 0 then img (prt r (max a 0) (min b r.2.1 - max a 0)) x else 0) = if max a 0 + x < r.2.1 then img r (max a 0 + x) else imgAt t (max a 0 + x - r.2.1)
          rw [if_pos hlt, prt_img h0 hlt, if_pos (by omega)]
      · rw [if_neg hc]
        refine ⟨trivial, by simp only [lenS]; omega, fun x h0 hx => by omega⟩
    · obtain ⟨i1, i2, i3⟩ := pieces_spec t (a - r.2.1) (b - r.2.1) ht (by omega) (by omega) (by omega)
      simp only [pieces]
      by_cases hc : max a 0 < min b r.2.1
      · rw [if_pos hc]
        refine ⟨⟨prt_good hr (by omega) (by omega) (by omega), i1⟩, ?_, fun x h0 hx => ?_⟩
        · simp only [List.cons_append, List.nil_append, lenS, i2]; show min b r.2.1 - max a 0 + _ = _; omega
        · simp only [List.cons_append, List.nil_append, imgAt]
          show (if x < min b r.2.1 - max a 0 then _ else imgAt _ (x - (min b r.2.1 - max a 0))) = _
          by_cases hx2 : x < min b r.2.1 - max a 0
          · rw [if_pos hx2, prt_img h0 hx2, if_pos (by omega)]
          · rw [if_neg hx2, i3 _ (by omega) (by omega), if_neg (by omega)]
            congr 1; omega
      · rw [if_neg hc, List.nil_append]
        refine ⟨i1, by rw [i2]; omega, fun x h0 hx => ?_⟩
        rw [i3 x h0 (by omega)]
        simp only [imgAt]
        rw [if_neg (by omega)]
        congr 1; omega

theorem rvs1_good {p : Rn} (h : good p) : good (rvs1 p) ∧ (rvs1 p).2.1 = p.2.1 ∧ ∀ x, 0 ≤ x → x < p.2.1 → img (rvs1 p) x = img p (p.2.1 - 1 - x) := by
  have h1 := h.1
  have hi : ∀ x, 0 ≤ x → x < p.2.1 → img (rvs1 p) x = img p (p.2.1 - 1 - x) := fun x h0 hx => by
    unfold rvs1 img
    by_cases hl : p.2.1 > 1
    · rw [decide_eq_true hl, Bool.and_true]
      cases p.2.2 <;> simp only [Bool.not_false, Bool.not_true, Bool.false_eq_true, if_false, if_true] <;> omega
    · have : x = 0 := by omega
      subst this
      rw [decide_eq_false hl, Bool.and_false]
      simp
  refine ⟨good_of_ends h1 ?_ ?_, rfl, hi⟩
  · rw [hi 0 (by omega) (by omega)]; exact good_img h (by omega) (by omega)
  · show 0 ≤ img (rvs1 p) (p.2.1 - 1) ∧ img (rvs1 p) (p.2.1 - 1) < 17179869184
    rw [hi _ (by omega) (by omega)]; exact good_img h (by omega) (by omega)

theorem revs_spec : ∀ (l : List Rn), goods l → goods (l.reverse.map rvs1) ∧ lenS (l.reverse.map rvs1) = lenS l ∧ ∀ x, 0 ≤ x → x < lenS l → imgAt (l.reverse.map rvs1) x = imgAt l (lenS l - 1 - x)
  | [], _ => ⟨trivial, rfl, fun x _ h => by simp only [lenS] at h; omega⟩
  | r :: t, ⟨hr, ht⟩ => by
    obtain ⟨i1, i2, i3⟩ := revs_spec t ht
    obtain ⟨r1, r2, r3⟩ := rvs1_good hr
    have hr1 := hr.1
    have ht0 := lenS_nonneg ht
    have e : (r :: t).reverse.map rvs1 = t.reverse.map rvs1 ++ [rvs1 r] := by simp
    rw [e]
    refine ⟨(goods_append _ _).2 ⟨i1, r1, trivial⟩, ?_, fun x h0 hx => ?_⟩
    · rw [lenS_append, i2]; simp only [lenS, r2]; omega
    · simp only [lenS] at hx ⊢
      rw [imgAt_append _ _ _ i1 h0, i2]
      simp only [imgAt, r2]
      by_cases h : x < lenS t
      · rw [if_pos h, i3 x h0 h, if_neg (by omega)]
        congr 1; omega
      · rw [if_neg h, if_pos (by omega), if_pos (by omega), r3 _ (by omega) (by omega)]
        congr 1; omega

theorem steps_spec (outer : List Rn) (r : Rn) (ho : goods outer) (hr : good r) (hh : hi r < lenS outer) :
    goods (steps outer r) ∧ lenS (steps outer r) = r.2.1 ∧ ∀ x, 0 ≤ x → x < r.2.1 → imgAt (steps outer r) x = imgAt outer (img r x) := by
  obtain ⟨l1, l2, l3, l4⟩ := hr.lohi
  have hr1 := hr.1
  unfold steps
  unfold lo at l1 l2 l4
  unfold hi at l2 l3 l4 hh
  cases hb : r.2.2
  · rw [hb] at l1 l2 l3 l4 hh
    simp only [Bool.false_eq_true, if_false] at l1 l2 l3 l4 hh ⊢
    obtain ⟨p1, p2, p3⟩ := pieces_spec outer r.1 (r.1 + r.2.1) ho (by omega) (by omega) (by omega)
    refine ⟨p1, by rw [p2]; omega, fun x h0 hx => ?_⟩
    rw [p3 x h0 (by omega)]
    unfold img
    rw [hb]
    simp only [Bool.false_eq_true, if_false]
    congr 1; omega
  · rw [hb] at l1 l2 l3 l4 hh
    simp only [if_true] at l1 l2 l3 l4 hh ⊢
    obtain ⟨p1, p2, p3⟩ := pieces_spec outer (r.1 - r.2.1 + 1) (r.1 + 1) ho (by omega) (by omega) (by omega)
    obtain ⟨q1, q2, q3⟩ := revs_spec _ p1
    refine ⟨q1, by rw [q2, p2]; omega, fun x h0 hx => ?_⟩
    rw [q3 x h0 (by omega), p3 _ (by omega) (by omega), p2]
    unfold img
    rw [hb]
    simp only [if_true]
    congr 1; omega

theorem compS_spec (outer : List Rn) (ho : goods outer) : ∀ (inner b : List Rn), goods inner → fitsIn (lenS outer) inner → goods b →
    goods (inner.foldl (fun b r => adds b (steps outer r)) b) ∧ lenS (inner.foldl (fun b r => adds b (steps outer r)) b) = lenS b + lenS inner ∧
    ∀ x, 0 ≤ x → x < lenS b + lenS inner → imgAt (inner.foldl (fun b r => adds b (steps outer r)) b) x = if x < lenS b then imgAt b x else imgAt outer (imgAt inner (x - lenS b))
  | [], b, _, _, hb => ⟨hb, by simp [lenS], fun x h0 h1 => by simp only [lenS, Int.add_zero] at h1; simp only [List.foldl_nil]; rw [if_pos h1]⟩
  | r :: t, b, ⟨hr, ht⟩, ⟨hf, hft⟩, hb => by
    obtain ⟨s1, s2, s3⟩ := steps_spec outer r ho hr hf
    obtain ⟨a1, a2, a3⟩ := adds_spec (steps outer r) b hb s1
    obtain ⟨i1, i2, i3⟩ := compS_spec outer ho t (adds b (steps outer r)) ht hft a1
    have hr1 := hr.1
    have ht0 := lenS_nonneg ht
    simp only [List.foldl_cons, lenS]
    refine ⟨i1, by rw [i2, a2, s2]; omega, fun x h0 hx => ?_⟩
    rw [i3 x h0 (by rw [a2, s2]; omega), a2, s2]
    by_cases h : x < lenS b + r.2.1
    · rw [if_pos h, a3 x h0 (by rw [s2]; omega), imgAt_append _ _ _ hb h0]
      by_cases h2 : x < lenS b
      · rw [if_pos h2, if_pos h2]
      · rw [if_neg h2, if_neg h2, s3 _ (by omega) (by omega)]
        simp only [imgAt]
        rw [if_pos (by omega)]
    · rw [if_neg h, if_neg (by omega)]
      simp only [imgAt]
      rw [if_neg (by omega)]
      congr 2; omega

/-- a composition: valid, and the one map after the other -/
theorem comp_spec {inner outer m : List Rn} (h : comp inner outer = (m, 0)) : Chk inner ∧ Chk outer ∧ fitsIn (lenS outer) inner ∧ Chk m ∧ lenS m = lenS inner ∧ ∀ x, 0 ≤ x → x < lenS inner → imgAt m x = imgAt outer (imgAt inner x) := by
  unfold comp at h
  by_cases h1 : chk inner ≠ 0
  · rw [if_pos h1] at h; exact absurd (congrArg Prod.snd h) h1
  rw [if_neg h1] at h
  by_cases h2 : chk outer ≠ 0
  · rw [if_pos h2] at h; exact absurd (congrArg Prod.snd h) h2
  rw [if_neg h2] at h
  by_cases h3 : ¬ fitsIn (lenS outer) inner
  · rw [if_pos h3] at h; exact absurd (congrArg Prod.snd h) (fun e => by cases e)
  rw [if_neg h3] at h
  by_cases h4 : (compS inner outer).length > 256
  · rw [if_pos h4] at h; exact absurd (congrArg Prod.snd h) (fun e => by cases e)
  rw [if_neg h4] at h
  have h1 := chk_zero.1 (Classical.not_not.1 h1)
  have h2 := chk_zero.1 (Classical.not_not.1 h2)
  have h3 := Classical.not_not.1 h3
  have e : compS inner outer = m := congrArg Prod.fst h
  obtain ⟨c1, c2, c3⟩ := compS_spec outer h2.goods inner [] h1.goods h3 trivial
  have c1 : goods (compS inner outer) := c1
  have c2 : lenS (compS inner outer) = 0 + lenS inner := c2
  rw [e] at c1 c2 h4
  refine ⟨h1, h2, h3, ⟨by omega, c1, by rw [c2]; have := h1.tot; omega⟩, by omega, fun x h0 hx => ?_⟩
  have := c3 x h0 (by simp only [lenS]; omega)
  have this : imgAt (compS inner outer) x = _ := this
  rw [e] at this
  rw [this]
  simp only [lenS, if_neg (by omega : ¬ x < 0), Int.sub_zero]
end Go.AM
