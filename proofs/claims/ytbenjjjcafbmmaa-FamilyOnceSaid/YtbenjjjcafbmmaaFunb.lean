/- Contracts of the functions that the law reaches, and the plain law. -/
import Derived.Test.YtbenjjjcafbmmaaFuna
set_option linter.unusedVariables false
set_option linter.unusedSimpArgs false
set_option linter.unusedSectionVars false
namespace Go.AM
open Go Go.IntKind

theorem good_iff {r : Rn} : good r ↔ 1 ≤ r.2.1 ∧ 0 ≤ lo r ∧ hi r < 17179869184 := by
 unfold good lo hi
 cases r.2.2
 ·simp only [Bool.false_eq_true, if_false]
  constructor
  ·rintro ⟨h1, h2, h3, h4, _, h6⟩
   have := h6 trivial
   omega
  ·rintro ⟨h1, h2, h3⟩
   refine ⟨by omega, by omega, by omega, by omega, fun h => h.elim, fun _ => by omega⟩
 ·simp only [if_true]
  constructor
  ·rintro ⟨h1, h2, h3, h4, h5, _⟩
   have := h5 trivial
   omega
  ·rintro ⟨h1, h2, h3⟩
   refine ⟨by omega, by omega, by omega, by omega, fun _ => by omega, fun h => by cases h⟩

theorem imgAt_append : ∀ (a b : List Rn) (x : Int), goods a → 0 ≤ x → imgAt (a ++ b) x = if x < lenS a then imgAt a x else imgAt b (x - lenS a)
 | [], b, x, _, h0 => by simp only [List.nil_append, lenS, if_neg (by omega : ¬ x < 0), Int.sub_zero]
 | r :: t, b, x, hg, h0 => by
  have hr := hg.1.1
  have ht := lenS_nonneg hg.2
  show (if x < r.2.1 then img r x else imgAt (t ++ b) (x - r.2.1)) = if x < r.2.1 + lenS t then (if x < r.2.1 then img r x else imgAt t (x - r.2.1)) else imgAt b (x - (r.2.1 + lenS t))
  by_cases h : x < r.2.1
  ·rw [if_pos h, if_pos (by omega), if_pos h]
  ·rw [if_neg h, imgAt_append t b _ hg.2 (by omega)]
   by_cases h2 : x - r.2.1 < lenS t
   ·rw [if_pos h2, if_pos (by omega), if_neg h]
   ·rw [if_neg h2, if_neg (by omega), Int.sub_sub]

/-- integers of a run: their images -/
theorem prt_img {r : Rn} {x n y : Int} (h0 : 0 ≤ y) (h1 : y < n) : img (prt r x n) y = img r (x + y) := by
 unfold prt img
 by_cases h : n > 1
 ·rw [decide_eq_true h, Bool.and_true]
  cases r.2.2 <;> simp only [Bool.false_eq_true, if_false, if_true] <;> omega
 ·have : y = 0 := by omega
  subst this
  cases r.2.2 && decide (n > 1) <;> simp
theorem prt_good {r : Rn} (h : good r) {x n : Int} (h0 : 0 ≤ x) (h1 : 1 ≤ n) (h2 : x + n ≤ r.2.1) : good (prt r x n) := by
 rw [good_iff] at h ⊢
 obtain ⟨g1, g2, g3⟩ := h
 have e1 := img_mem (r := r) (x := x) (by omega) (by omega)
 have e2 := img_mem (r := r) (x := x + n - 1) (by omega) (by omega)
 refine ⟨h1, ?_, ?_⟩
 ·unfold prt lo
  by_cases h : n > 1
  ·rw [decide_eq_true h, Bool.and_true]
   unfold img at e1 e2 ⊢
   cases hb : r.2.2 <;> rw [hb] at e1 e2 <;> simp only [Bool.false_eq_true, if_false, if_true] at e1 e2 ⊢ <;> omega
  ·rw [decide_eq_false h, Bool.and_false]
   simp only [Bool.false_eq_true, if_false]; omega
 ·unfold prt hi
  by_cases h : n > 1
  ·rw [decide_eq_true h, Bool.and_true]
   unfold img at e1 e2 ⊢
   cases hb : r.2.2 <;> rw [hb] at e1 e2 <;> simp only [Bool.false_eq_true, if_false, if_true] at e1 e2 ⊢ <;> omega
  ·rw [decide_eq_false h, Bool.and_false]
   simp only [Bool.false_eq_true, if_false]; omega

theorem stp_of {c r : Rn} (h : apart c r = false) : stp c r = 1 ∨ stp c r = -1 := by
 unfold apart at h
 simp only [Bool.or_eq_false_iff] at h
 generalize stp c r = s at h
 by_cases e1 : s = 1
 ·exact .inl e1
 ·by_cases e2 : s = -1
  ·exact .inr e2
  ·have := h.1; simp [e1, e2] at this
theorem back_of {c r : Rn} (h : apart c r = false) (hc : c.2.1 > 1) : c.2.2 = (stp c r == -1) := by
 unfold apart at h
 simp only [Bool.or_eq_false_iff] at h
 have h2 := h.2
 rw [decide_eq_true hc, Bool.true_and] at h2
 cases e : c.2.2 <;> cases e2 : (stp c r == -1) <;> simp_all

/-- a run that takes n integers of the next one -/
theorem grow_img {c r : Rn} (hc : 1 ≤ c.2.1) (h : apart c r = false) {n : Int} (hn : n > 1 → r.2.2 = (stp c r == -1)) {x : Int} (h0 : 0 ≤ x) (h1 : x < c.2.1 + n) :
  img (c.1, c.2.1 + n, stp c r == -1) x = if x < c.2.1 then img c x else img r (x - c.2.1) := by
 have hb := back_of (c := c) (r := r) h
 have hstp : stp c r = r.1 - img c (c.2.1 - 1) := rfl
 rcases stp_of h with hs | hs
 ·rw [hs] at hb hn hstp ⊢
  have hf : ((1 : Int) == -1) = false := rfl
  rw [hf] at hb hn ⊢
  unfold img at hstp ⊢
  simp only [Bool.false_eq_true, if_false]
  by_cases hx : x < c.2.1
  ·rw [if_pos hx]
   by_cases hc1 : c.2.1 > 1
   ·rw [hb hc1]; simp
   ·have : x = 0 := by omega
    subst this; cases c.2.2 <;> simp
  ·rw [if_neg hx]
   have e1 : r.1 = c.1 + c.2.1 := by
    by_cases hc1 : c.2.1 > 1
    ·rw [hb hc1] at hstp; simp only [Bool.false_eq_true, if_false] at hstp; omega
    ·cases e : c.2.2 <;> rw [e] at hstp <;> simp only [Bool.false_eq_true, if_false, if_true] at hstp <;> omega
   by_cases hn1 : n > 1
   ·rw [hn hn1]; simp only [Bool.false_eq_true, if_false]; omega
   ·cases r.2.2 <;> simp only [Bool.false_eq_true, if_false, if_true] <;> omega
 ·rw [hs] at hb hn hstp ⊢
  have hf : ((-1 : Int) == -1) = true := rfl
  rw [hf] at hb hn ⊢
  unfold img at hstp ⊢
  simp only [if_true]
  by_cases hx : x < c.2.1
  ·rw [if_pos hx]
   by_cases hc1 : c.2.1 > 1
   ·rw [hb hc1]; simp
   ·have : x = 0 := by omega
    subst this; cases c.2.2 <;> simp
  ·rw [if_neg hx]
   have e1 : r.1 = c.1 - c.2.1 := by
    by_cases hc1 : c.2.1 > 1
    ·rw [hb hc1] at hstp; simp only [if_true] at hstp; omega
    ·cases e : c.2.2 <;> rw [e] at hstp <;> simp only [Bool.false_eq_true, if_false, if_true] at hstp <;> omega
   by_cases hn1 : n > 1
   ·rw [hn hn1]; simp only [if_true]; omega
   ·cases r.2.2 <;> simp only [Bool.false_eq_true, if_false, if_true] <;> omega

theorem good_of_ends {r : Rn} (h1 : 1 ≤ r.2.1) (a : 0 ≤ img r 0 ∧ img r 0 < 17179869184) (b : 0 ≤ img r (r.2.1 - 1) ∧ img r (r.2.1 - 1) < 17179869184) : good r := by
 rw [good_iff]
 unfold img at a b
 unfold lo hi
 cases hb : r.2.2 <;> rw [hb] at a b <;> simp only [Bool.false_eq_true, if_false, if_true] at a b ⊢ <;> omega
theorem good_img {r : Rn} (h : good r) {x : Int} (h0 : 0 ≤ x) (h1 : x < r.2.1) : 0 ≤ img r x ∧ img r x < 17179869184 := by
 have := img_mem (r := r) h0 h1
 have h := good_iff.1 h
 omega

theorem grow_good {c r : Rn} (hc : good c) (hr : good r) (h : apart c r = false) {n : Int} (hn0 : 1 ≤ n) (hn1 : n ≤ r.2.1) (hn : n > 1 → r.2.2 = (stp c r == -1)) : good (c.1, c.2.1 + n, stp c r == -1) := by
 have hc1 := hc.1
 refine good_of_ends (by show 1 ≤ c.2.1 + n; omega) ?_ ?_
 ·rw [grow_img hc1 h hn (by omega) (by omega), if_pos (by omega)]
  exact good_img hc (by omega) (by omega)
 ·show 0 ≤ img (c.1, c.2.1 + n, stp c r == -1) (c.2.1 + n - 1) ∧ img (c.1, c.2.1 + n, stp c r == -1) (c.2.1 + n - 1) < 17179869184
  rw [grow_img hc1 h hn (by omega) (by omega), if_neg (by omega)]
  exact good_img hr (by omega) (by omega)

/-- what a further run makes of a normal form -/
theorem addS_spec (b : List Rn) (r : Rn) (hb : goods b) (hr : good r) : goods (addS b r) ∧ lenS (addS b r) = lenS b + r.2.1 ∧ ∀ x, 0 ≤ x → x < lenS b + r.2.1 → imgAt (addS b r) x = imgAt (b ++ [r]) x := by
 have hr1 := hr.1
 have last1 : ∀ (x : Int), x < r.2.1 → imgAt [r] x = img r x := fun x h => by simp only [imgAt, if_pos h]
 have p0 : ∀ x, 0 ≤ x → x < r.2.1 → img (prt r 0 r.2.1) x = img r x := fun x h0 h1 => by rw [prt_img h0 h1, Int.zero_add]
 have hp : good (prt r 0 r.2.1) := prt_good hr (by omega) hr1 (by omega)
 have new : ∀ b : List Rn, goods b → goods (b ++ [prt r 0 r.2.1]) ∧ lenS (b ++ [prt r 0 r.2.1]) = lenS b + r.2.1 ∧ ∀ x, 0 ≤ x → x < lenS b + r.2.1 → imgAt (b ++ [prt r 0 r.2.1]) x = imgAt (b ++ [r]) x := fun b hb => by
  refine ⟨(goods_append _ _).2 ⟨hb, hp, trivial⟩, ?_, fun x h0 h1 => ?_⟩
  ·rw [lenS_append]; simp only [lenS]; show lenS b + (r.2.1 + 0) = _; omega
  ·rw [imgAt_append _ _ _ hb h0, imgAt_append _ _ _ hb h0]
   by_cases h : x < lenS b
   ·rw [if_pos h, if_pos h]
   ·rw [if_neg h, if_neg h, last1 _ (by omega)]
    have hlt : x - lenS b < (prt r 0 r.2.1).2.1 := by show x - lenS b < r.2.1; omega
    simp only [imgAt, if_pos hlt]
    exact p0 _ (by omega) (by omega)
 have h0 : ¬ r.2.1 < 1 := by omega
 rcases List.eq_nil_or_concat b with rfl | ⟨pre, c, rfl⟩
 ·unfold addS
  rw [if_neg h0]
  exact new [] trivial
 rw [List.concat_eq_append] at *
 obtain ⟨hpre, hc, _⟩ := (goods_append _ _).1 hb
 have hc1 := hc.1
 have hlc : lenS (pre ++ [c]) = lenS pre + c.2.1 := by rw [lenS_append]; simp only [lenS]; omega
 have e : addS (pre ++ [c]) r = (bif apart c r then pre ++ [c] ++ [prt r 0 r.2.1]
   else bif decide (r.2.1 > 1) && !(r.2.2 == (stp c r == -1)) then pre ++ [(c.1, c.2.1 + 1, stp c r == -1), prt r 1 (r.2.1 - 1)]
   else pre ++ [(c.1, c.2.1 + r.2.1, stp c r == -1)]) := by
  unfold addS; rw [if_neg h0]; simp
 rw [e]
 cases ha : apart c r with
 | true => rw [cond_true]; exact new _ hb
 | false =>
 rw [cond_false]
 have old : ∀ x, 0 ≤ x → x < lenS (pre ++ [c]) + r.2.1 → imgAt (pre ++ [c] ++ [r]) x = if x < lenS pre then imgAt pre x else if x - lenS pre < c.2.1 then img c (x - lenS pre) else img r (x - lenS pre - c.2.1) := fun x hx0 hx1 => by
  rw [List.append_assoc, imgAt_append _ _ _ hpre hx0]
  by_cases h : x < lenS pre
  ·rw [if_pos h, if_pos h]
  ·rw [if_neg h, if_neg h]
   simp only [List.cons_append, List.nil_append, imgAt]
   by_cases h2 : x - lenS pre < c.2.1
   ·rw [if_pos h2, if_pos h2]
   ·rw [if_neg h2, if_neg h2, if_pos (by omega)]
 cases hd : (decide (r.2.1 > 1) && !(r.2.2 == (stp c r == -1))) with
 | true =>
  rw [cond_true]
  simp only [Bool.and_eq_true, decide_eq_true_eq] at hd
  have hn : (1 : Int) > 1 → r.2.2 = (stp c r == -1) := fun h => by omega
  have hg := grow_good hc hr ha (n := 1) (by omega) (by omega) hn
  have hq : good (prt r 1 (r.2.1 - 1)) := prt_good hr (by omega) (by omega) (by omega)
  refine ⟨(goods_append _ _).2 ⟨hpre, hg, hq, trivial⟩, ?_, fun x hx0 hx1 => ?_⟩
  ·rw [lenS_append, hlc]
   simp only [lenS]
   show lenS pre + (c.2.1 + 1 + (r.2.1 - 1 + 0)) = _
   omega
  ·rw [old x hx0 hx1, imgAt_append _ _ _ hpre hx0]
   by_cases h : x < lenS pre
   ·rw [if_pos h, if_pos h]
   ·rw [if_neg h, if_neg h]
    simp only [imgAt]
    show (if x - lenS pre < c.2.1 + 1 then _ else if x - lenS pre - (c.2.1 + 1) < r.2.1 - 1 then _ else _) = _
    by_cases h2 : x - lenS pre < c.2.1 + 1
    ·rw [if_pos h2, grow_img hc1 ha hn (by omega) h2]
    ·rw [if_neg h2, if_pos (by omega), if_neg (by omega), prt_img (by omega) (by omega)]
     congr 1; omega
 | false =>
  rw [cond_false]
  have hn : r.2.1 > 1 → r.2.2 = (stp c r == -1) := fun h => by
   rw [decide_eq_true h, Bool.true_and] at hd
   cases e : r.2.2 <;> cases e2 : (stp c r == -1) <;> simp_all
  have hg := grow_good hc hr ha (n := r.2.1) (by omega) (by omega) hn
  refine ⟨(goods_append _ _).2 ⟨hpre, hg, trivial⟩, ?_, fun x hx0 hx1 => ?_⟩
  ·rw [lenS_append, hlc]
   simp only [lenS]
   show lenS pre + (c.2.1 + r.2.1 + 0) = _
   omega
  ·rw [old x hx0 hx1, imgAt_append _ _ _ hpre hx0]
   by_cases h : x < lenS pre
   ·rw [if_pos h, if_pos h]
   ·rw [if_neg h, if_neg h]
    simp only [imgAt]
    show (if x - lenS pre < c.2.1 + r.2.1 then _ else _) = _
    rw [if_pos (by omega), grow_img hc1 ha hn (by omega) (by omega)]

theorem adds_spec : ∀ (l b : List Rn), goods b → goods l → goods (adds b l) ∧ lenS (adds b l) = lenS b + lenS l ∧ ∀ x, 0 ≤ x → x < lenS b + lenS l → imgAt (adds b l) x = imgAt (b ++ l) x
 | [], b, hb, _ => by simp [adds, lenS, hb]
 | r :: t, b, hb, ⟨hr, ht⟩ => by
  obtain ⟨a1, a2, a3⟩ := addS_spec b r hb hr
  obtain ⟨b1, b2, b3⟩ := adds_spec t (addS b r) a1 ht
  have hr1 := hr.1
  have hb0 := lenS_nonneg hb
  have ht0 := lenS_nonneg ht
  refine ⟨b1, by show lenS (adds (addS b r) t) = _; rw [b2, a2]; simp only [lenS]; omega, fun x h0 h1 => ?_⟩
  show imgAt (adds (addS b r) t) x = _
  simp only [lenS] at h1
  rw [b3 x h0 (by rw [a2]; omega), imgAt_append _ _ _ a1 h0, a2, show b ++ r :: t = b ++ [r] ++ t by simp, imgAt_append (b ++ [r]) _ _ ((goods_append _ _).2 ⟨hb, hr, trivial⟩) h0, lenS_append, show lenS [r] = r.2.1 by simp [lenS]]
  by_cases h : x < lenS b + r.2.1
  ·rw [if_pos h, if_pos h, a3 x h0 h]
  ·rw [if_neg h, if_neg h]

theorem pieces_spec : ∀ (m : List Rn) (a b : Int), goods m → a < b → b ≤ lenS m → 0 ≤ b →
  goods (pieces m a b) ∧ lenS (pieces m a b) = b - max a 0 ∧ ∀ x, 0 ≤ x → x < b - max a 0 → imgAt (pieces m a b) x = imgAt m (max a 0 + x)
 | [], a, b, _, h1, h2, h3 => by
  simp only [lenS] at h2
  refine ⟨trivial, by simp only [pieces, lenS]; omega, fun x h0 hx => by omega⟩
 | r :: t, a, b, ⟨hr, ht⟩, h1, h2, h3 => by
  have hr1 := hr.1
  have ht0 := lenS_nonneg ht
  simp only [lenS] at h2
  by_cases hb : b - r.2.1 ≤ 0
  ·-- the end lies within the first run
   have hnil : pieces t (a - r.2.1) (b - r.2.1) = [] := by
    have : ∀ (t : List Rn) (a b : Int), b ≤ 0 → goods t → pieces t a b = [] := fun t => by
     induction t with
     | nil => intros; rfl
     | cons u v ih =>
      intro a b hb hg
      have := hg.1.1
      simp only [pieces]
      rw [if_neg (by omega), ih _ _ (by omega) hg.2]; rfl
    exact this t _ _ hb ht
   simp only [pieces, hnil, List.append_nil]
   by_cases hc : max a 0 < min b r.2.1
   ·rw [if_pos hc]
    refine ⟨⟨prt_good hr (by omega) (by omega) (by omega), trivial⟩, ?_, fun x h0 hx => ?_⟩
    ·simp only [lenS]; show min b r.2.1 - max a 0 + 0 = _; omega
    ·have hlt : x < min b r.2.1 - max a 0 := by omega
     show (if x < min b r.2.1 - max a 0 then img (prt r (max a 0) (min b r.2.1 - max a 0)) x else 0) = if max a 0 + x < r.2.1 then img r (max a 0 + x) else imgAt t (max a 0 + x - r.2.1)
     rw [if_pos hlt, prt_img h0 hlt, if_pos (by omega)]
   ·rw [if_neg hc]
    refine ⟨trivial, by simp only [lenS]; omega, fun x h0 hx => by omega⟩
  ·obtain ⟨i1, i2, i3⟩ := pieces_spec t (a - r.2.1) (b - r.2.1) ht (by omega) (by omega) (by omega)
   simp only [pieces]
   by_cases hc : max a 0 < min b r.2.1
   ·rw [if_pos hc]
    refine ⟨⟨prt_good hr (by omega) (by omega) (by omega), i1⟩, ?_, fun x h0 hx => ?_⟩
    ·simp only [List.cons_append, List.nil_append, lenS, i2]; show min b r.2.1 - max a 0 + _ = _; omega
    ·simp only [List.cons_append, List.nil_append, imgAt]
     show (if x < min b r.2.1 - max a 0 then _ else imgAt _ (x - (min b r.2.1 - max a 0))) = _
     by_cases hx2 : x < min b r.2.1 - max a 0
     ·rw [if_pos hx2, prt_img h0 hx2, if_pos (by omega)]
     ·rw [if_neg hx2, i3 _ (by omega) (by omega), if_neg (by omega)]
      congr 1; omega
   ·rw [if_neg hc, List.nil_append]
    refine ⟨i1, by rw [i2]; omega, fun x h0 hx => ?_⟩
    rw [i3 x h0 (by omega)]
    simp only [imgAt]
    rw [if_neg (by omega)]
    congr 1; omega

theorem rvs1_good {p : Rn} (h : good p) : good (rvs1 p) ∧ (rvs1 p).2.1 = p.2.1 ∧ ∀ x, 0 ≤ x → x < p.2.1 → img (rvs1 p) x = img p (p.2.1 - 1 - x) := by
 have h1 := h.1
 have hi : ∀ x, 0 ≤ x → x < p.2.1 → img (rvs1 p) x = img p (p.2.1 - 1 - x) := fun x h0 hx => by
  unfold rvs1 img
  by_cases hl : p.2.1 > 1
  ·rw [decide_eq_true hl, Bool.and_true]
   cases p.2.2 <;> simp only [Bool.not_false, Bool.not_true, Bool.false_eq_true, if_false, if_true] <;> omega
  ·have : x = 0 := by omega
   subst this
   rw [decide_eq_false hl, Bool.and_false]
   simp
 refine ⟨good_of_ends h1 ?_ ?_, rfl, hi⟩
 ·rw [hi 0 (by omega) (by omega)]; exact good_img h (by omega) (by omega)
 ·show 0 ≤ img (rvs1 p) (p.2.1 - 1) ∧ img (rvs1 p) (p.2.1 - 1) < 17179869184
  rw [hi _ (by omega) (by omega)]; exact good_img h (by omega) (by omega)

theorem revs_spec : ∀ (l : List Rn), goods l → goods (l.reverse.map rvs1) ∧ lenS (l.reverse.map rvs1) = lenS l ∧ ∀ x, 0 ≤ x → x < lenS l → imgAt (l.reverse.map rvs1) x = imgAt l (lenS l - 1 - x)
 | [], _ => ⟨trivial, rfl, fun x _ h => by simp only [lenS] at h; omega⟩
 | r :: t, ⟨hr, ht⟩ => by
  obtain ⟨i1, i2, i3⟩ := revs_spec t ht
  obtain ⟨r1, r2, r3⟩ := rvs1_good hr
  have hr1 := hr.1
  have ht0 := lenS_nonneg ht
  have e : (r :: t).reverse.map rvs1 = t.reverse.map rvs1 ++ [rvs1 r] := by simp
  rw [e]
  refine ⟨(goods_append _ _).2 ⟨i1, r1, trivial⟩, ?_, fun x h0 hx => ?_⟩
  ·rw [lenS_append, i2]; simp only [lenS, r2]; omega
  ·simp only [lenS] at hx ⊢
   rw [imgAt_append _ _ _ i1 h0, i2]
   simp only [imgAt, r2]
   by_cases h : x < lenS t
   ·rw [if_pos h, i3 x h0 h, if_neg (by omega)]
    congr 1; omega
   ·rw [if_neg h, if_pos (by omega), if_pos (by omega), r3 _ (by omega) (by omega)]
    congr 1; omega

theorem steps_spec (outer : List Rn) (r : Rn) (ho : goods outer) (hr : good r) (hh : hi r < lenS outer) :
  goods (steps outer r) ∧ lenS (steps outer r) = r.2.1 ∧ ∀ x, 0 ≤ x → x < r.2.1 → imgAt (steps outer r) x = imgAt outer (img r x) := by
 obtain ⟨l1, l2, l3, l4⟩ := hr.lohi
 have hr1 := hr.1
 unfold steps
 unfold lo at l1 l2 l4
 unfold hi at l2 l3 l4 hh
 cases hb : r.2.2
 ·rw [hb] at l1 l2 l3 l4 hh
  simp only [Bool.false_eq_true, if_false] at l1 l2 l3 l4 hh ⊢
  obtain ⟨p1, p2, p3⟩ := pieces_spec outer r.1 (r.1 + r.2.1) ho (by omega) (by omega) (by omega)
  refine ⟨p1, by rw [p2]; omega, fun x h0 hx => ?_⟩
  rw [p3 x h0 (by omega)]
  unfold img
  rw [hb]
  simp only [Bool.false_eq_true, if_false]
  congr 1; omega
 ·rw [hb] at l1 l2 l3 l4 hh
  simp only [if_true] at l1 l2 l3 l4 hh ⊢
  obtain ⟨p1, p2, p3⟩ := pieces_spec outer (r.1 - r.2.1 + 1) (r.1 + 1) ho (by omega) (by omega) (by omega)
  obtain ⟨q1, q2, q3⟩ := revs_spec _ p1
  refine ⟨q1, by rw [q2, p2]; omega, fun x h0 hx => ?_⟩
  rw [q3 x h0 (by omega), p3 _ (by omega) (by omega), p2]
  unfold img
  rw [hb]
  simp only [if_true]
  congr 1; omega

end Go.AM
namespace Go.AM
open Go Go.Proofs

theorem goods.bnds {b : List Rn} (h : goods b) : ∀ c ∈ b, Bnd c ∧ 1 ≤ c.2.1 := fun c hc => ⟨(h.mem c hc).bnd, (h.mem c hc).1⟩
theorem addS_len (b : List Rn) (r : Rn) : (addS b r).length ≤ b.length + 1 := by
  by_cases h0 : r.2.1 < 1
  · rw [addS_zero _ _ h0]; omega
  rcases List.eq_nil_or_concat b with rfl | ⟨pre, c, rfl⟩
  · rw [addS_nil _ h0]; simp
  rw [List.concat_eq_append, addS_last _ _ _ h0]
  cases apart c r
  · rw [cond_false]
    cases decide (r.2.1 > 1) && !(r.2.2 == (stp c r == -1))
    · rw [cond_false]; simp
    · rw [cond_true]; simp
  · rw [cond_true]; simp
theorem adds_len : ∀ (l b : List Rn), (adds b l).length ≤ b.length + l.length
  | [], b => by simp [adds]
  | r :: t, b => by
    have h1 := addS_len b r
    have h2 := adds_len t (addS b r)
    have : adds b (r :: t) = adds (addS b r) t := rfl
    rw [this]; simp only [List.length_cons]; omega
theorem pieces_len : ∀ (m : List Rn) (a b : Int), (pieces m a b).length ≤ m.length
  | [], _, _ => Nat.le_refl _
  | r :: t, a, b => by
    have := pieces_len t (a - r.2.1) (b - r.2.1)
    simp only [pieces, List.length_append, List.length_cons]
    split <;> simp <;> omega
theorem adds_append (b l m : List Rn) : adds b (l ++ m) = adds (adds b l) m := by unfold adds; rw [List.foldl_append]

/-- one piece, as the program has it -/
theorem piece_eq (r : Rn) (f t a : Int) : (if a > f then a else f) - a = max (f - a) 0 ∧ (if a + r.2.1 < t then a + r.2.1 else t) - (if a > f then a else f) = min (t - a) r.2.1 - max (f - a) 0 ∧ ((if a > f then a else f) < (if a + r.2.1 < t then a + r.2.1 else t) ↔ max (f - a) 0 < min (t - a) r.2.1) := by
  refine ⟨?_, ?_, ?_⟩ <;> split <;> (try split) <;> omega

structure EachOk (m : List Rn) (f t : Int) : Prop where
  goods : goods m
  len : m.length ≤ 300
  f0 : -1125899906842624 ≤ f ∧ f ≤ 1125899906842624
  t0 : -1125899906842624 ≤ t ∧ t ≤ 1125899906842624

theorem iso_each_add_l (k : Nat) (hk : 4 ≤ k) (m0 : List Rn) (f0 t0 : Int) (b0 : List Rn) (m : List Rn) (f t : Int) (ok : EachOk m f t) : ∀ (j i : Nat) (a : Int) (b : List Rn), i ≤ m.length → m.length - i < j → 0 ≤ a → a ≤ (i : Int) * 17179869184 → goods b → b.length ≤ 100000000 + i →
    f_u39_2 k m0 f0 t0 b0 j f t a m (m.length : Int) (i : Int) b = some (adds b (pieces (m.drop i) (f - a) (t - a))) := by
  obtain ⟨hg, hm, ⟨f1, f2⟩, t1, t2⟩ := ok
  intro j
  induction j with
  | zero => intros; omega
  | succ j ih =>
    intro i a b hi hj h0 ha hb hbl
    rw [f_u39_2]
    by_cases h : i < m.length
    · have hgr : good (m.getD i T0.dflt) := hg.mem _ (by simp [h])
      rw [decide_eq_true (by omega : (i : Int) < (m.length : Int)), cond_true, if_pos ⟨by omega, by omega⟩, drop_cons' m i T0.dflt h, Int.toNat_natCast]
      generalize m.getD i T0.dflt = r at hgr
      have hgr' := hgr
      obtain ⟨g1, g2, g3, g4, _⟩ := hgr
      obtain ⟨e1, e2, e3⟩ := piece_eq r f t a
      have m1 : -9223372036854775808 ≤ (if a > f then a else f) - a := by split <;> omega
      have m2 : (if a > f then a else f) - a < 9223372036854775808 := by split <;> omega
      have m3 : -9223372036854775808 ≤ (if a + r.snd.fst < t then a + r.snd.fst else t) - (if a > f then a else f) := by split <;> split <;> omega
      have m4 : (if a + r.snd.fst < t then a + r.snd.fst else t) - (if a > f then a else f) < 9223372036854775808 := by split <;> split <;> omega
      rw [wrap_id (i := a + r.snd.fst) (by omega) (by omega), wrap_id m1 m2, wrap_id m3 m4, wrapS i (by omega), e1, e2]
      have hrec : f - a - r.2.1 = f - (a + r.snd.fst) := by omega
      have hrec2 : t - a - r.2.1 = t - (a + r.snd.fst) := by omega
      by_cases hc : max (f - a) 0 < min (t - a) r.2.1
      · have hp := prt_good hgr' (x := max (f - a) 0) (n := min (t - a) r.2.1 - max (f - a) 0) (by omega) (by omega) (by omega)
        rw [decide_eq_true (e3.2 hc), cond_true, iso_part_s k r _ _ (by omega) (by omega) (by omega) (by omega), iso_part_v k r _ _ (by omega) (by omega) (by omega) (by omega)]
        rw [iso_add_s k hk b _ (by omega) hp.bnd hb.bnds, iso_add_v k hk b _ (by omega) hp.bnd hb.bnds, if_pos ⟨rfl, rfl⟩]
        rw [ih (i + 1) _ _ (by omega) (by omega) (by omega) (by omega) (addS_spec b _ hb hp).1 (by have := addS_len b (prt r (max (f - a) 0) (min (t - a) r.snd.fst - max (f - a) 0)); omega)]
        rw [pieces, if_pos hc, adds_append, hrec, hrec2]
        rfl
      · rw [decide_eq_false (fun x => hc (e3.1 x)), cond_false, ih (i + 1) _ _ (by omega) (by omega) (by omega) (by omega) hb (by omega), pieces, if_neg hc, List.nil_append, hrec, hrec2]
    · rw [decide_eq_false (by omega : ¬ (i : Int) < (m.length : Int)), cond_false, drop_all m i (by omega)]
      rfl
theorem iso_each_add_s (k : Nat) (hk : 304 ≤ k) (m : List Rn) (f t : Int) (ok : EachOk m f t) (b : List Rn) (hb : goods b) (hbl : b.length ≤ 100000000) : f_u39 k m f t b = some (adds b (pieces m f t)) := by
  unfold f_u39
  have := iso_each_add_l k (by omega) m f t b m f t ok k 0 0 b (by omega) (by have := ok.len; omega) (by omega) (by omega) hb (by omega)
  rw [Int.sub_zero, Int.sub_zero] at this
  exact this
theorem iso_each_add_v (k : Nat) (hk : 304 ≤ k) (m : List Rn) (f t : Int) (ok : EachOk m f t) (b : List Rn) (hb : goods b) (hbl : b.length ≤ 100000000) : v_u39 k m f t b = adds b (pieces m f t) := by
  unfold v_u39; rw [iso_each_add_s k hk m f t ok b hb hbl]; rfl

theorem iso_each_piece_l (k : Nat) (m0 : List Rn) (f0 t0 : Int) (b0 : List Rn) (m : List Rn) (f t : Int) (ok : EachOk m f t) : ∀ (j i : Nat) (a : Int) (b : List Rn), i ≤ m.length → m.length - i < j → 0 ≤ a → a ≤ (i : Int) * 17179869184 → b.length ≤ 100000000 + i →
    f_u41_2 k m0 f0 t0 b0 j f t a m (m.length : Int) (i : Int) b = some (b ++ pieces (m.drop i) (f - a) (t - a)) := by
  obtain ⟨hg, hm, ⟨f1, f2⟩, t1, t2⟩ := ok
  intro j
  induction j with
  | zero => intros; omega
  | succ j ih =>
    intro i a b hi hj h0 ha hbl
    rw [f_u41_2]
    by_cases h : i < m.length
    · have hgr : good (m.getD i T0.dflt) := hg.mem _ (by simp [h])
      rw [decide_eq_true (by omega : (i : Int) < (m.length : Int)), cond_true, if_pos ⟨by omega, by omega⟩, drop_cons' m i T0.dflt h, Int.toNat_natCast]
      generalize m.getD i T0.dflt = r at hgr
      obtain ⟨g1, g2, g3, g4, _⟩ := hgr
      obtain ⟨e1, e2, e3⟩ := piece_eq r f t a
      have m1 : -9223372036854775808 ≤ (if a > f then a else f) - a := by split <;> omega
      have m2 : (if a > f then a else f) - a < 9223372036854775808 := by split <;> omega
      have m3 : -9223372036854775808 ≤ (if a + r.snd.fst < t then a + r.snd.fst else t) - (if a > f then a else f) := by split <;> split <;> omega
      have m4 : (if a + r.snd.fst < t then a + r.snd.fst else t) - (if a > f then a else f) < 9223372036854775808 := by split <;> split <;> omega
      rw [wrap_id (i := a + r.snd.fst) (by omega) (by omega), wrap_id m1 m2, wrap_id m3 m4, wrapS i (by omega), e1, e2]
      have hrec : f - a - r.2.1 = f - (a + r.snd.fst) := by omega
      have hrec2 : t - a - r.2.1 = t - (a + r.snd.fst) := by omega
      by_cases hc : max (f - a) 0 < min (t - a) r.2.1
      · rw [decide_eq_true (e3.2 hc), cond_true, iso_part_s k r _ _ (by omega) (by omega) (by omega) (by omega), iso_part_v k r _ _ (by omega) (by omega) (by omega) (by omega)]
        have ec : ∀ p : Rn, f_u33 k p b = some (b ++ [p]) := fun p => by
          unfold f_u33
          rw [if_pos (by rw [List.length_singleton]; omega)]
        have ev : ∀ p : Rn, v_u33 k p b = b ++ [p] := fun p => by unfold v_u33; rw [ec]; rfl
        rw [ec, ev, if_pos ⟨rfl, rfl⟩, ih (i + 1) _ _ (by omega) (by omega) (by omega) (by omega) (by rw [List.length_append, List.length_singleton]; omega), pieces, if_pos hc, hrec, hrec2]
        simp
      · rw [decide_eq_false (fun x => hc (e3.1 x)), cond_false, ih (i + 1) _ _ (by omega) (by omega) (by omega) (by omega) (by omega), pieces, if_neg hc, List.nil_append, hrec, hrec2]
    · rw [decide_eq_false (by omega : ¬ (i : Int) < (m.length : Int)), cond_false, drop_all m i (by omega)]
      simp [pieces]
theorem iso_each_piece_s (k : Nat) (hk : 304 ≤ k) (m : List Rn) (f t : Int) (ok : EachOk m f t) : f_u41 k m f t [] = some (pieces m f t) := by
  unfold f_u41
  have := iso_each_piece_l k m f t [] m f t ok k 0 0 [] (by omega) (by have := ok.len; omega) (by omega) (by omega) (by simp)
  rw [Int.sub_zero, Int.sub_zero, List.nil_append] at this
  exact this
theorem iso_each_piece_v (k : Nat) (hk : 304 ≤ k) (m : List Rn) (f t : Int) (ok : EachOk m f t) : v_u41 k m f t [] = pieces m f t := by
  unfold v_u41; rw [iso_each_piece_s k hk m f t ok]; rfl

theorem iso_reversed_l (k : Nat) (hk : 4 ≤ k) (m0 b0 : List Rn) (m : List Rn) (hg : goods m) (hm : m.length ≤ 300) : ∀ (j i : Nat) (b : List Rn), i ≤ m.length → i < j → goods b → b.length ≤ 100000000 + (m.length - i) →
    f_u46_1 k m0 b0 j m ((i : Int) - 1) b = some (adds b ((m.take i).reverse.map rvs1)) := by
  intro j
  induction j with
  | zero => intros; omega
  | succ j ih =>
    intro i b hi hj hb hbl
    rw [f_u46_1]
    cases i with
    | zero =>
      rw [decide_eq_false (by omega), cond_false]
      rfl
    | succ i =>
      have hlt : i < m.length := by omega
      have hgr : good (m.getD i T0.dflt) := hg.mem _ (by simp [hlt])
      rw [show ((i + 1 : Nat) : Int) - 1 = (i : Int) by omega, decide_eq_true (by omega), cond_true, if_pos ⟨by omega, by omega⟩, Int.toNat_natCast, take_snoc m i T0.dflt hlt]
      generalize m.getD i T0.dflt = r at hgr
      obtain ⟨q1, _, _⟩ := rvs1_good hgr
      obtain ⟨g1, g2, g3, g4, _⟩ := hgr
      have er : (img r (r.snd.fst - 1), r.snd.fst, !r.snd.snd && decide (r.snd.fst > 1)) = rvs1 r := rfl
      rw [wrap_id (i := r.snd.fst - 1) (by omega) (by omega), wrap_id (i := (i : Int) - 1) (by omega) (by omega), iso_image_s k r _ (by omega) (by omega) (by omega) (by omega), iso_image_v k r _ (by omega) (by omega) (by omega) (by omega), er]
      rw [iso_add_s k hk b _ (by omega) q1.bnd hb.bnds, iso_add_v k hk b _ (by omega) q1.bnd hb.bnds, if_pos ⟨rfl, rfl⟩]
      rw [ih i _ (by omega) (by omega) (addS_spec b _ hb q1).1 (by have := addS_len b (rvs1 r); omega)]
      simp only [List.reverse_append, List.reverse_cons, List.reverse_nil, List.nil_append, List.cons_append, List.map_cons]
      rfl
theorem iso_reversed_s (k : Nat) (hk : 304 ≤ k) (m : List Rn) (hg : goods m) (hm : m.length ≤ 300) (b : List Rn) (hb : goods b) (hbl : b.length ≤ 100000000) : f_u46 k m b = some (adds b (m.reverse.map rvs1)) := by
  unfold f_u46
  rw [wrap_id (by omega) (by omega), iso_reversed_l k (by omega) m b m hg hm k m.length b (by omega) (by omega) hb (by omega), List.take_length]
theorem iso_reversed_v (k : Nat) (hk : 304 ≤ k) (m : List Rn) (hg : goods m) (hm : m.length ≤ 300) (b : List Rn) (hb : goods b) (hbl : b.length ≤ 100000000) : v_u46 k m b = adds b (m.reverse.map rvs1) := by
  unfold v_u46; rw [iso_reversed_s k hk m hg hm b hb hbl]; rfl

theorem max_ends {r : Rn} (h : good r) : (if img r (r.2.1 - 1) > r.1 then img r (r.2.1 - 1) else r.1) = hi r := by
  have h1 := h.1
  unfold img hi
  cases r.2.2 <;> simp only [Bool.false_eq_true, if_false, if_true] <;> split <;> omega
theorem min_ends {r : Rn} (h : good r) : (if img r (r.2.1 - 1) < r.1 then img r (r.2.1 - 1) else r.1) = lo r := by
  have h1 := h.1
  unfold img lo
  cases r.2.2 <;> simp only [Bool.false_eq_true, if_false, if_true] <;> split <;> omega

theorem steps_len (outer : List Rn) (r : Rn) : (steps outer r).length ≤ outer.length := by
  unfold steps
  split
  · simp only [List.length_map, List.length_reverse]; exact pieces_len _ _ _
  · exact pieces_len _ _ _

theorem iso_Compose16_l (k : Nat) (hk : 700 ≤ k) (inner outer : List Rn) (hin : Chk inner) (ho : Chk outer) (hf : fitsIn (lenS outer) inner) : ∀ (j i : Nat) (b : List Rn), i ≤ inner.length → inner.length - i < j → goods b → b.length ≤ i * 256 →
    f_u32_16 k j outer inner (inner.length : Int) (i : Int) b = some (if ((inner.drop i).foldl (fun b r => adds b (steps outer r)) b).length > 256 then ([], 8) else ((inner.drop i).foldl (fun b r => adds b (steps outer r)) b, 0)) := by
  have hil := hin.len
  have hol := ho.len
  have fitmem : ∀ {n : Int} {l : List Rn}, fitsIn n l → ∀ r ∈ l, hi r < n := fun {n l} => by
    induction l with
    | nil => intro _ r hr; simp at hr
    | cons u v ih =>
      rintro ⟨h1, h2⟩ r hr
      rcases List.mem_cons.1 hr with rfl | hr
      · exact h1
      · exact ih h2 r hr
  intro j
  induction j with
  | zero => intros; omega
  | succ j ih =>
    intro i b hi hj hb hbl
    rw [f_u32_16]
    by_cases h : i < inner.length
    · have hmem : inner.getD i T0.dflt ∈ inner := by simp [h]
      have hgr : good (inner.getD i T0.dflt) := hin.goods.mem _ hmem
      have hfr := fitmem hf _ hmem
      rw [decide_eq_true (by omega : (i : Int) < (inner.length : Int)), cond_true, if_pos ⟨by omega, by omega⟩, drop_cons' inner i T0.dflt h, Int.toNat_natCast]
      generalize inner.getD i T0.dflt = r at hgr hfr
      have hgr' := hgr
      obtain ⟨g1, g2, g3, g4, _⟩ := hgr
      obtain ⟨s1, s2, s3⟩ := steps_spec outer r ho.goods hgr' hfr
      have hsl := steps_len outer r
      have hal := adds_len (steps outer r) b
      have hag := (adds_spec (steps outer r) b hb s1).1
      rw [List.foldl_cons]
      cases hbk : r.snd.snd with
      | false =>
        have es : steps outer r = pieces outer r.1 (r.1 + r.2.1) := by unfold steps; rw [show r.2.2 = r.snd.snd from rfl, hbk, if_neg (by decide)]
        have ok : EachOk outer r.fst (r.fst + r.snd.fst) := ⟨ho.goods, by omega, ⟨by omega, by omega⟩, by omega, by omega⟩
        rw [Bool.not_false, cond_true, wrap_id (i := r.fst + r.snd.fst) (by omega) (by omega), iso_each_add_s k (by omega) outer _ _ ok b hb (by omega), iso_each_add_v k (by omega) outer _ _ ok b hb (by omega), Option.isSome_some, if_pos rfl, wrapS i (by omega), ← es]
        exact ih (i + 1) _ (by omega) (by omega) hag (by omega)
      | true =>
        have es : steps outer r = ((pieces outer (r.1 - r.2.1 + 1) (r.1 + 1)).reverse).map rvs1 := by unfold steps; rw [show r.2.2 = r.snd.snd from rfl, hbk, if_pos rfl]
        have ok : EachOk outer (r.fst - r.snd.fst + 1) (r.fst + 1) := ⟨ho.goods, by omega, ⟨by omega, by omega⟩, by omega, by omega⟩
        have hpl := pieces_len outer (r.fst - r.snd.fst + 1) (r.fst + 1)
        have hpg : goods (pieces outer (r.fst - r.snd.fst + 1) (r.fst + 1)) := (pieces_spec outer _ _ ho.goods (by omega) (by
          unfold Go.AM.hi at hfr
          rw [show r.2.2 = r.snd.snd from rfl, hbk, if_pos rfl] at hfr
          omega) (by omega)).1
        rw [Bool.not_true, cond_false, wrap_id (i := r.fst - r.snd.fst) (by omega) (by omega), wrap_id (i := r.fst - r.snd.fst + 1) (by omega) (by omega), wrap_id (i := r.fst + 1) (by omega) (by omega), iso_each_piece_s k (by omega) outer _ _ ok, iso_each_piece_v k (by omega) outer _ _ ok, Option.isSome_some, if_pos rfl]
        rw [iso_reversed_s k (by omega) _ hpg (by omega) b hb (by omega), iso_reversed_v k (by omega) _ hpg (by omega) b hb (by omega), Option.isSome_some, if_pos rfl, wrapS i (by omega), ← es]
        exact ih (i + 1) _ (by omega) (by omega) hag (by omega)
    · rw [decide_eq_false (by omega : ¬ (i : Int) < (inner.length : Int)), cond_false, drop_all inner i (by omega)]
      rw [List.foldl_nil]
      by_cases hl : b.length > 256
      · have e : f_u38 k b = some (.inl 8) := by
          unfold f_u38; rw [decide_eq_true (by omega), cond_true]
        have ev : v_u38 k b = .inl 8 := by unfold v_u38; rw [e]; rfl
        have ea : vA_u38 k b = 8 := by unfold vA_u38; rw [ev]; rfl
        rw [ev, e, ea, if_pos hl]; rfl
      · have e : f_u38 k b = some (.inr 0) := by
          unfold f_u38; rw [decide_eq_false (by omega), cond_false]
        have ev : v_u38 k b = .inr 0 := by unfold v_u38; rw [e]; rfl
        have ea : vB_u38 k b = 0 := by unfold vB_u38; rw [ev]; rfl
        rw [ev, e, ea, if_neg hl]; rfl

theorem iso_Compose9_l (k : Nat) (hk : 700 ≤ k) (inner outer : List Rn) (hin : Chk inner) (ho : Chk outer) (hf0 : fitsIn (lenS outer) inner → ∀ j, inner.length < j → f_u32_16 k j outer inner (inner.length : Int) 0 [] = some (if (compS inner outer).length > 256 then ([], 8) else (compS inner outer, 0))) : ∀ (j i : Nat), i ≤ inner.length → inner.length - i + inner.length + 1 < j → fitsIn (lenS outer) (inner.take i) →
    f_u32_9 k j inner outer (lenS outer) inner (inner.length : Int) (i : Int) = some (if ¬ fitsIn (lenS outer) inner then ([], 21) else if (compS inner outer).length > 256 then ([], 8) else (compS inner outer, 0)) := by
  have hil := hin.len
  have fitapp : ∀ {n : Int} (a b : List Rn), fitsIn n (a ++ b) ↔ fitsIn n a ∧ fitsIn n b := fun {n} a b => by
    induction a with
    | nil => simp [fitsIn]
    | cons u v ih => simp only [List.cons_append, fitsIn, ih]; exact and_assoc.symm
  intro j
  induction j with
  | zero => intros; omega
  | succ j ih =>
    intro i hi hj hf
    rw [f_u32_9]
    by_cases h : i < inner.length
    · have hmem : inner.getD i T0.dflt ∈ inner := by simp [h]
      have hgr : good (inner.getD i T0.dflt) := hin.goods.mem _ hmem
      have htk := take_snoc inner i T0.dflt h
      have hdr := drop_cons' inner i T0.dflt h
      rw [decide_eq_true (by omega : (i : Int) < (inner.length : Int)), cond_true, if_pos ⟨by omega, by omega⟩, Int.toNat_natCast]
      generalize inner.getD i T0.dflt = r at hgr htk hdr
      have hgr' := hgr
      obtain ⟨g1, g2, g3, g4, _⟩ := hgr
      rw [wrap_id (i := r.snd.fst - 1) (by omega) (by omega), iso_image_s k r _ (by omega) (by omega) (by omega) (by omega), iso_image_v k r _ (by omega) (by omega) (by omega) (by omega), Option.isSome_some, if_pos rfl, max_ends hgr']
      by_cases hlt : Go.AM.hi r < lenS outer
      · rw [decide_eq_false (by omega : ¬ Go.AM.hi r ≥ lenS outer), cond_false, wrapS i (by omega)]
        exact ih (i + 1) (by omega) (by omega) (by rw [htk, fitapp]; exact ⟨hf, hlt, trivial⟩)
      · rw [decide_eq_true (by omega : Go.AM.hi r ≥ lenS outer), cond_true, if_pos]
        intro hfit
        have : inner = inner.take i ++ inner.drop i := (List.take_append_drop i inner).symm
        rw [this, fitapp, hdr] at hfit
        exact hlt hfit.2.1
    · have : inner.take i = inner := List.take_of_length_le (by omega)
      rw [this] at hf
      rw [decide_eq_false (by omega : ¬ (i : Int) < (inner.length : Int)), cond_false, if_neg (Classical.not_not.2 hf)]
      exact hf0 hf j (by omega)
theorem iso_Compose_s (k : Nat) (hk : 700 ≤ k) (inner outer : List Rn) : f_u32 k inner outer = some (comp inner outer) := by
  unfold f_u32 comp
  rw [iso_Check_s k (by omega), iso_Check_v k (by omega), iso_Check_s k (by omega), iso_Check_v k (by omega), Option.isSome_some, Option.isSome_some, if_pos rfl]
  by_cases h1 : chk inner = 0
  · rw [show (chk inner != 0) = false by simp [h1], cond_false, if_pos rfl, if_neg (fun h : chk inner ≠ 0 => h h1)]
    by_cases h2 : chk outer = 0
    · have c1 := chk_zero.1 h1
      have c2 := chk_zero.1 h2
      have l1 := c1.len
      have l2 := c2.len
      rw [show (chk outer != 0) = false by simp [h2], cond_false, if_neg (fun h : chk outer ≠ 0 => h h2), iso_length_s k outer c2.goods (by omega) (by omega), iso_length_v k outer c2.goods (by omega) (by omega), Option.isSome_some, if_pos rfl]
      exact iso_Compose9_l k hk inner outer c1 c2 (fun hf j hj => iso_Compose16_l k hk inner outer c1 c2 hf j 0 [] (by omega) (by omega) trivial (by simp)) k 0 (by omega) (by omega) (by simp [fitsIn])
    · rw [show (chk outer != 0) = true by simp [h2], cond_true, if_pos h2]
  · rw [show (chk inner != 0) = true by simp [h1], cond_true, if_pos h1]
theorem iso_Compose_v (k : Nat) (hk : 700 ≤ k) (inner outer : List Rn) : v_u32 k inner outer = comp inner outer := by
  unfold v_u32; rw [iso_Compose_s k hk]; rfl
end Go.AM
namespace Go.AM
open Go Go.IntKind

end Go.AM
namespace Go.AM
open Go Go.Proofs

end Go.AM
namespace Go.AM
open Go Go.Proofs

theorem fitsIn.mem {n : Int} : ∀ {l : List Rn}, fitsIn n l → ∀ r ∈ l, hi r < n
  | [], _, r, hr => by simp at hr
  | u :: v, ⟨h1, h2⟩, r, hr => by
    rcases List.mem_cons.1 hr with rfl | hr
    · exact h1
    · exact fitsIn.mem h2 r hr
/-! ### single integers -/
/-- the image of x, or the error -/
def atS (m : List Rn) (x : Int) : Int × Int := if chk m ≠ 0 then (0, chk m) else if x < 0 ∨ x ≥ lenS m then (0, 1) else (imgAt m x, 0)

theorem iso_each_at_l (k : Nat) (m0 : List Rn) (f0 t0 c0 : Int) (m : List Rn) (x : Int) (hg : goods m) (hm : m.length ≤ 300) (h0 : 0 ≤ x) (h1 : x ≤ 1125899906842624) : ∀ (j i : Nat) (a y : Int), i ≤ m.length → m.length - i < j → 0 ≤ a → a ≤ (i : Int) * 17179869184 →
    f_u40_2 k m0 f0 t0 c0 j x (x + 1) a m (m.length : Int) (i : Int) y = some (if a ≤ x ∧ x - a < lenS (m.drop i) then imgAt (m.drop i) (x - a) else y) := by
  intro j
  induction j with
  | zero => intros; omega
  | succ j ih =>
    intro i a y hi hj ha0 ha
    rw [f_u40_2]
    by_cases h : i < m.length
    · have hgr : good (m.getD i T0.dflt) := hg.mem _ (by simp [h])
      have hgd : goods (m.drop (i + 1)) := by
        have : goods (m.take (i + 1) ++ m.drop (i + 1)) := by rw [List.take_append_drop]; exact hg
        exact ((goods_append _ _).1 this).2
      have hnn := lenS_nonneg hgd
      rw [decide_eq_true (by omega : (i : Int) < (m.length : Int)), cond_true, if_pos ⟨by omega, by omega⟩, drop_cons' m i T0.dflt h, Int.toNat_natCast]
      generalize m.getD i T0.dflt = r at hgr
      obtain ⟨g1, g2, g3, g4, _⟩ := hgr
      obtain ⟨e1, e2, e3⟩ := piece_eq r x (x + 1) a
      have m1 : -9223372036854775808 ≤ (if a > x then a else x) - a := by split <;> omega
      have m2 : (if a > x then a else x) - a < 9223372036854775808 := by split <;> omega
      have m3 : -9223372036854775808 ≤ (if a + r.snd.fst < x + 1 then a + r.snd.fst else x + 1) - (if a > x then a else x) := by split <;> split <;> omega
      have m4 : (if a + r.snd.fst < x + 1 then a + r.snd.fst else x + 1) - (if a > x then a else x) < 9223372036854775808 := by split <;> split <;> omega
      rw [wrap_id (i := a + r.snd.fst) (by omega) (by omega), wrap_id m1 m2, wrap_id m3 m4, wrapS i (by omega), e1, e2]
      have hl : lenS (r :: m.drop (i + 1)) = r.2.1 + lenS (m.drop (i + 1)) := rfl
      have him : imgAt (r :: m.drop (i + 1)) (x - a) = if x - a < r.2.1 then img r (x - a) else imgAt (m.drop (i + 1)) (x - a - r.2.1) := rfl
      rw [hl, him]
      by_cases hc : max (x - a) 0 < min (x + 1 - a) r.2.1
      · rw [decide_eq_true (e3.2 hc), cond_true, iso_part_s k r _ _ (by omega) (by omega) (by omega) (by omega), iso_part_v k r _ _ (by omega) (by omega) (by omega) (by omega)]
        have ev : ∀ p : Rn, v_u30 k p y = p.1 := fun p => rfl
        have ec : ∀ p : Rn, f_u30 k p y = some p.1 := fun p => rfl
        rw [ev, ec, if_pos ⟨rfl, rfl⟩, ih (i + 1) _ _ (by omega) (by omega) (by omega) (by omega)]
        rw [if_neg (by omega), if_pos (by omega), if_pos (by omega)]
        show some (img r (max (x - a) 0)) = _
        rw [show max (x - a) 0 = x - a by omega]
      · rw [decide_eq_false (fun q => hc (e3.1 q)), cond_false, ih (i + 1) _ _ (by omega) (by omega) (by omega) (by omega)]
        by_cases hin : a ≤ x ∧ x - a < r.2.1 + lenS (m.drop (i + 1))
        · rw [if_pos hin, if_pos (by omega), if_neg (by omega)]
          congr 2; omega
        · rw [if_neg hin, if_neg (by omega)]
    · rw [decide_eq_false (by omega : ¬ (i : Int) < (m.length : Int)), cond_false, drop_all m i (by omega), if_neg (by simp only [lenS]; omega)]
theorem iso_At_s (k : Nat) (hk : 304 ≤ k) (m : List Rn) (x : Int) : f_u29 k m x = some (atS m x) := by
  unfold f_u29 atS
  rw [iso_Check_s k (by omega), iso_Check_v k (by omega), Option.isSome_some, if_pos rfl]
  by_cases h1 : chk m = 0
  · have c1 := chk_zero.1 h1
    have l1 := c1.len
    have t1 := c1.tot
    rw [show (chk m != 0) = false by simp [h1], cond_false, if_neg (fun h : chk m ≠ 0 => h h1), iso_length_s k m c1.goods (by omega) (by omega), iso_length_v k m c1.goods (by omega) (by omega)]
    by_cases h0 : x < 0
    · rw [decide_eq_true h0, cond_true, if_pos rfl, if_pos (.inl h0)]
    · rw [decide_eq_false h0, cond_false, if_pos ⟨rfl, rfl⟩, Bool.false_or]
      by_cases h2 : x ≥ lenS m
      · rw [decide_eq_true h2, cond_true, if_pos (.inr h2)]
      · rw [decide_eq_false h2, cond_false, if_neg (show ¬ (x < 0 ∨ x ≥ lenS m) by omega), wrap_id (by omega) (by omega)]
        have e : f_u40 k m x (x + 1) 0 = some (imgAt m x) := by
          unfold f_u40
          have := iso_each_at_l k m x (x + 1) 0 m x c1.goods (by omega) (by omega) (by omega) k 0 0 0 (by omega) (by omega) (by omega) (by omega)
          rw [Int.sub_zero, List.drop_zero, if_pos (by omega)] at this
          exact this
        have ev : v_u40 k m x (x + 1) 0 = imgAt m x := by unfold v_u40; rw [e]; rfl
        rw [e, ev]; rfl
  · rw [show (chk m != 0) = true by simp [h1], cond_true, if_pos h1]
theorem iso_At_v (k : Nat) (hk : 304 ≤ k) (m : List Rn) (x : Int) : v_u29 k m x = atS m x := by
  unfold v_u29; rw [iso_At_s k hk]; rfl
end Go.AM
namespace Go.AM
open Go Go.IntKind

theorem asc_of_pairwise : ∀ (l : List Sp) (b : Int), (∀ s ∈ l, b ≤ s.1) → l.Pairwise (fun x y => x.1 ≤ y.1) → Asc b l
 | [], _, _, _ => trivial
 | s :: t, b, h, hp => by
  obtain ⟨h1, h2⟩ := List.pairwise_cons.1 hp
  exact ⟨h s (by simp), asc_of_pairwise t s.1 (fun u hu => h1 u hu) h2⟩

/-- the normal form -/
def nf (l : List Sp) : List Sp := jn0 (sortSP l)

theorem In.small {l : List Sp} (h : In 0 17179869184 l) : ∀ x ∈ l, SmallI x.1 := fun x hx => by
 obtain ⟨a, b, c⟩ := h.mem x hx
 exact ⟨a, by omega⟩
theorem nf_asc {l : List Sp} (h : In 0 17179869184 l) : Asc 0 (sortSP l) :=
 asc_of_pairwise _ 0 (fun s hs => (h.mem s ((perm_sortSP h.small).mem_iff.1 hs)).1) sorted_sortSP
theorem nf_nr {l : List Sp} (h : In 0 17179869184 l) : Nr (-1) (nf l) := jn0_nr _ _ (nf_asc h)
theorem nf_has {l : List Sp} (h : In 0 17179869184 l) (x : Int) : has (nf l) x ↔ has l x := by
 unfold nf
 rw [jn0_has _ 0 x (nf_asc h), has_perm (perm_sortSP h.small)]
theorem nf_in {l : List Sp} (h : In 0 17179869184 l) : In 0 17179869184 (nf l) :=
 jn0_in _ (In.of fun s hs => h.mem s ((perm_sortSP h.small).mem_iff.1 hs))
theorem nf_len {l : List Sp} (h : In 0 17179869184 l) : (nf l).length ≤ l.length := by
 have := jn0_len (sortSP l)
 rw [(perm_sortSP h.small).length_eq] at this
 exact this
theorem nf_uniq {l m : List Sp} (h : In 0 17179869184 l) (hm : Nr (-1) m) (he : ∀ x, has m x ↔ has l x) : m = nf l :=
 Nr.uniq hm (nf_nr h) fun x => (he x).trans (nf_has h x).symm
theorem nf_self {l : List Sp} (h : In 0 17179869184 l) (hn : Nr (-1) l) : nf l = l := (nf_uniq h hn fun _ => Iff.rfl).symm

/-- the error of a list of spans -/
def chkS (l : List Sp) : Int := if l.length > 256 then 8 else if l.all (fun s => decide (0 ≤ s.1 ∧ s.1 ≤ s.2 ∧ s.2 ≤ 17179869184)) = true then 0 else 1
theorem chkS_zero {l : List Sp} : chkS l = 0 ↔ l.length ≤ 256 ∧ In 0 17179869184 l := by
 unfold chkS
 constructor
 ·intro h
  by_cases h1 : l.length > 256
  ·rw [if_pos h1] at h; omega
  ·rw [if_neg h1] at h
   by_cases h2 : l.all (fun s => decide (0 ≤ s.1 ∧ s.1 ≤ s.2 ∧ s.2 ≤ 17179869184)) = true
   ·exact ⟨by omega, In.of fun s hs => of_decide_eq_true (List.all_eq_true.1 h2 s hs)⟩
   ·rw [if_neg h2] at h; omega
 ·rintro ⟨h1, h2⟩
  rw [if_neg (by omega), if_pos (List.all_eq_true.2 fun s hs => decide_eq_true (h2.mem s hs))]

/-- the normal form of a list of spans, or its error -/
def normS (l : List Sp) : List Sp × Int := if chkS l ≠ 0 then ([], chkS l) else (nf l, 0)
def totalS (l : List Sp) : Int × Int := if chkS l ≠ 0 then (0, chkS l) else (tot (nf l), 0)

end Go.AM
namespace Go.AM
open Go Go.IntKind

/-! ### the reference's way to the normal form -/
def ins : List Int → Int → List Int
 | [], n => [n]
 | x :: t, n => if x < n then x :: ins t n else if x = n then x :: t else n :: x :: t
def hasB (l : List Sp) (x : Int) : Bool := l.any fun s => decide (s.1 ≤ x) && decide (x < s.2)
/-- between two neighbours of the list, the first of which is in the set -/
def seg (a : List Sp) : List Int → Int → Prop
 | x :: y :: t, z => (hasB a x = true ∧ x ≤ z ∧ z < y) ∨ seg a (y :: t) z
 | _, _ => False

end Go.AM
namespace Go.AM
open Go Go.Proofs

theorem eqT_sp (a b : Sp) : eqT T7 a b = decide (a = b) := by
  show ((a.1 == b.1) && (a.2 == b.2)) = _
  by_cases h1 : a.1 = b.1 <;> by_cases h2 : a.2 = b.2 <;> simp [h1, h2, Prod.ext_iff]

theorem span_Check_l (k : Nat) (l : List Sp) (hl : l.length ≤ 256) : ∀ (j i : Nat), i ≤ l.length → l.length - i < j →
    f_u63_4 k j l (l.length : Int) (i : Int) = some (if (l.drop i).all (fun s => decide (0 ≤ s.1 ∧ s.1 ≤ s.2 ∧ s.2 ≤ 17179869184)) = true then 0 else 1) := by
  intro j
  induction j with
  | zero => intros; omega
  | succ j ih =>
    intro i hi hj
    rw [f_u63_4]
    by_cases h : i < l.length
    · rw [decide_eq_true (by omega : (i : Int) < (l.length : Int)), cond_true, if_pos ⟨by omega, by omega⟩, drop_cons' l i T7.dflt h, Int.toNat_natCast, List.all_cons]
      generalize l.getD i T7.dflt = s
      by_cases hs : 0 ≤ s.1 ∧ s.1 ≤ s.2 ∧ s.2 ≤ 17179869184
      · rw [decide_eq_false (by omega : ¬ s.fst < 0), decide_eq_false (by omega : ¬ s.fst > s.snd), decide_eq_false (by omega : ¬ s.snd > 17179869184), Bool.or_self, Bool.or_self, cond_false, wrapS i (by omega), ih (i + 1) (by omega) (by omega), decide_eq_true hs, Bool.true_and]
      · have : (decide (s.fst < 0) || decide (s.fst > s.snd) || decide (s.snd > 17179869184)) = true := by
          by_cases a : s.fst < 0
          · rw [decide_eq_true a]; rfl
          · by_cases b : s.fst > s.snd
            · rw [decide_eq_true b, Bool.or_true]; rfl
            · rw [decide_eq_true (by omega : s.snd > 17179869184), Bool.or_true]
        rw [this, cond_true, decide_eq_false hs, Bool.false_and, if_neg (by decide)]
    · rw [decide_eq_false (by omega : ¬ (i : Int) < (l.length : Int)), cond_false, drop_all l i (by omega)]
      rfl
theorem span_Check_s (k : Nat) (hk : 300 ≤ k) (l : List Sp) : f_u63 k l = some (chkS l) := by
  unfold f_u63 chkS
  by_cases h : l.length > 256
  · rw [decide_eq_true (by omega : (l.length : Int) > 256), cond_true, if_pos h]
  · rw [decide_eq_false (by omega : ¬ (l.length : Int) > 256), cond_false, if_neg h]
    exact span_Check_l k l (by omega) k 0 (by omega) (by omega)
theorem span_Check_v (k : Nat) (hk : 300 ≤ k) (l : List Sp) : v_u63 k l = chkS l := by
  unfold v_u63; rw [span_Check_s k hk]; rfl

theorem last_idxS (pre : List Sp) (c : Sp) (h : pre.length < 4611686018427387904) : (IntKind.i64.wrap (((pre ++ [c]).length : Int) - 1)).toNat = pre.length := by
  rw [List.length_append, List.length_singleton, wrap_id (by omega) (by omega)]; omega
theorem last_getS (pre : List Sp) (c d : Sp) : (pre ++ [c]).getD pre.length d = c := by simp
theorem last_setS (pre : List Sp) (c d : Sp) : (pre ++ [c]).set pre.length d = pre ++ [d] := by simp

theorem span_joined_l (k : Nat) (l : List Sp) (hl : l.length ≤ 100000) : ∀ (j i : Nat), i ≤ l.length → l.length - i < j →
    (∀ last : Sp, last.1 ≥ last.2 → f_u67_6 k j (l.length : Int) (i : Int) [] last l = some (jn0 (l.drop i))) ∧
    (∀ (pre : List Sp) (c last : Sp), pre.length ≤ i → (last.1 ≥ last.2 ∨ last.2 ≤ c.2) → f_u67_6 k j (l.length : Int) (i : Int) (pre ++ [c]) last l = some (pre ++ jn c (l.drop i))) := by
  intro j
  induction j with
  | zero => intros; omega
  | succ j ih =>
    intro i hi hj
    by_cases h : i < l.length
    · refine ⟨fun last hla => ?_, fun pre c last hp hla => ?_⟩
      · rw [f_u67_6, decide_eq_true (by omega : (i : Int) < (l.length : Int)), cond_true, if_pos ⟨by omega, by omega⟩, drop_cons' l i T7.dflt h, Int.toNat_natCast, eqT_sp, jn0]
        obtain ⟨ih1, ih2⟩ := ih (i + 1) (by omega) (by omega)
        generalize l.getD i T7.dflt = s at *
        by_cases q : s.1 ≥ s.2
        · rw [decide_eq_true q, Bool.true_or, cond_true, if_pos q, wrapS i (by omega)]
          exact ih1 s q
        · have hne : ¬ s = last := fun e => q (e ▸ hla)
          rw [decide_eq_false q, decide_eq_false hne, Bool.false_or, cond_false, if_neg q, wrapS i (by omega)]
          rw [if_pos ⟨fun e => (by simp at e), fun e => (by simp at e)⟩]
          show (bif decide ((0 : Int) > 0) && _ then _ else _) = _
          rw [decide_eq_false (by omega), Bool.false_and, cond_false, if_pos (by simp), List.nil_append]
          exact ih2 [] s s (by simp) (.inr (Int.le_refl _))
      · rw [f_u67_6, decide_eq_true (by omega : (i : Int) < (l.length : Int)), cond_true, if_pos ⟨by omega, by omega⟩, drop_cons' l i T7.dflt h, Int.toNat_natCast, eqT_sp, jn]
        obtain ⟨ih1, ih2⟩ := ih (i + 1) (by omega) (by omega)
        generalize l.getD i T7.dflt = s at *
        have hlen : (pre ++ [c]).length = pre.length + 1 := by simp
        by_cases q : s.1 ≥ s.2
        · rw [decide_eq_true q, Bool.true_or, cond_true, if_pos q, wrapS i (by omega)]
          exact ih2 pre c s (by omega) (.inl q)
        · rw [if_neg q, decide_eq_false q, Bool.false_or]
          by_cases he : s = last
          · have h2 : s.2 ≤ c.2 := by
              subst he
              rcases hla with h | h
              · exact absurd h q
              · exact h
            rw [decide_eq_true he, cond_true, wrapS i (by omega), if_pos (by omega), if_neg (by omega)]
            exact ih2 pre c s (by omega) (.inr h2)
          · have hidx : (0 : Int) ≤ IntKind.i64.wrap (((pre ++ [c]).length : Int) - 1) ∧ IntKind.i64.wrap (((pre ++ [c]).length : Int) - 1) < ((pre ++ [c]).length : Int) := by
              rw [hlen, wrap_id (by omega) (by omega)]; exact ⟨by omega, by omega⟩
            rw [decide_eq_false he, cond_false, if_pos ⟨fun _ => hidx.1, fun _ => hidx.2⟩, decide_eq_true (by rw [hlen]; omega), Bool.true_and, last_idxS pre c (by omega), last_getS, last_setS, wrapS i (by omega)]
            by_cases q2 : s.1 ≤ c.2
            · rw [decide_eq_true q2, cond_true, if_pos ⟨hidx.1, hidx.2, hidx.1, hidx.2⟩, if_pos q2]
              exact ih2 pre (c.1, if s.2 > c.2 then s.2 else c.2) s (by omega) (.inr (by show s.2 ≤ if s.2 > c.2 then s.2 else c.2; split <;> omega))
            · rw [decide_eq_false q2, cond_false, if_pos (by rw [hlen, List.length_singleton]; omega), if_neg q2]
              rw [ih2 (pre ++ [c]) s s (by simp; omega) (.inr (Int.le_refl _))]
              simp
    · have hd := drop_all l i (by omega)
      refine ⟨fun last hla => ?_, fun pre c last hp hla => ?_⟩
      · rw [f_u67_6, decide_eq_false (by omega : ¬ (i : Int) < (l.length : Int)), cond_false, hd]; rfl
      · rw [f_u67_6, decide_eq_false (by omega : ¬ (i : Int) < (l.length : Int)), cond_false, hd]; rfl
theorem span_joined_s (k : Nat) (l : List Sp) (h : In 0 17179869184 l) (hl : l.length ≤ 100000) (hk : l.length < k) : f_u67 k l = some (nf l) := by
  have e1 : f_u55 k l = some l := by
    unfold f_u55; rw [if_pos (by omega)]
  have v1 : v_u55 k l = l := by unfold v_u55; rw [e1]; rfl
  have e2 : f_u58 k l = some (sortSP l) := by
    unfold f_u58
    rw [if_pos ⟨List.all_eq_true.2 fun x hx => decide_eq_true (h.small x hx), by omega⟩]
  have v2 : v_u58 k l = sortSP l := by unfold v_u58; rw [e2]; rfl
  have hlen := (perm_sortSP h.small).length_eq
  unfold f_u67
  rw [e1, v1, e2, v2, Option.isSome_some, Option.isSome_some, if_pos rfl, if_pos rfl]
  exact (span_joined_l k (sortSP l) (by omega) k 0 (by omega) (by omega)).1 (0, 0) (Int.le_refl _)
theorem span_joined_v (k : Nat) (l : List Sp) (h : In 0 17179869184 l) (hl : l.length ≤ 100000) (hk : l.length < k) : v_u67 k l = nf l := by
  unfold v_u67; rw [span_joined_s k l h hl hk]; rfl

/-- the ends of spans -/
def ends2 : List Sp → List Int
  | [] => []
  | s :: t => s.1 :: s.2 :: ends2 t
theorem ends2_len : ∀ l : List Sp, (ends2 l).length = 2 * l.length
  | [] => rfl
  | s :: t => by simp only [ends2, List.length_cons, ends2_len t]; omega
theorem ends2_fst : ∀ (l : List Sp) (p : Nat), p < l.length → (ends2 l).getD (2 * p) 0 = (l.getD p (0, 0)).1
  | s :: t, 0, _ => rfl
  | s :: t, p + 1, h => by
    have := ends2_fst t p (by simpa using h)
    rw [show 2 * (p + 1) = 2 * p + 1 + 1 by omega]
    simpa [ends2] using this
theorem ends2_snd : ∀ (l : List Sp) (p : Nat), p < l.length → (ends2 l).getD (2 * p + 1) 0 = (l.getD p (0, 0)).2
  | s :: t, 0, _ => rfl
  | s :: t, p + 1, h => by
    have := ends2_snd t p (by simpa using h)
    rw [show 2 * (p + 1) + 1 = 2 * p + 1 + 1 + 1 by omega]
    simpa [ends2] using this
theorem ends2_append : ∀ (a b : List Sp), ends2 (a ++ b) = ends2 a ++ ends2 b
  | [], b => rfl
  | s :: t, b => by simp [ends2, ends2_append t b]
theorem ends2_sorted : ∀ {b : Int} {l : List Sp}, Nr b l → (ends2 l).Pairwise (fun x y => x ≤ y) ∧ ∀ x ∈ ends2 l, b ≤ x
  | _, [], _ => ⟨List.Pairwise.nil, by simp [ends2]⟩
  | b, s :: t, ⟨h1, h2, h3⟩ => by
    obtain ⟨i1, i2⟩ := ends2_sorted h3
    refine ⟨List.pairwise_cons.2 ⟨fun x hx => ?_, List.pairwise_cons.2 ⟨fun x hx => i2 x hx, i1⟩⟩, fun x hx => ?_⟩
    · rcases List.mem_cons.1 hx with rfl | hx
      · omega
      · have := i2 x hx; omega
    · rcases List.mem_cons.1 hx with rfl | hx
      · omega
      · rcases List.mem_cons.1 hx with rfl | hx
        · omega
        · have := i2 x hx; omega

/-- neighbours of a normal form -/
theorem Nr.get : ∀ {b : Int} {l : List Sp}, Nr b l → ∀ (p : Nat), p < l.length → (l.getD p (0, 0)).1 < (l.getD p (0, 0)).2 ∧ (p + 1 < l.length → (l.getD p (0, 0)).2 < (l.getD (p + 1) (0, 0)).1)
  | _, [], _, p, h => by simp at h
  | b, s :: t, ⟨h1, h2, h3⟩, 0, h => by
    refine ⟨h2, fun h' => ?_⟩
    cases t with
    | nil => simp at h'
    | cons u v => exact h3.1
  | b, s :: t, ⟨h1, h2, h3⟩, p + 1, h => by
    have := Nr.get h3 p (by simpa using h)
    simpa using this

theorem span_sets_end (k j : Nat) (a : List Sp) (h : In 0 17179869184 a) (hn : Nr (-1) a) (hl : a.length ≤ 256) (hk : 300 ≤ k) : f_u69_28 k (j + 1) a = some (a, 0) := by
  rw [f_u69_28, span_joined_s k a h (by omega) (by omega), span_joined_v k a h (by omega) (by omega), nf_self h hn, Option.isSome_some, if_pos rfl, decide_eq_false (by omega), cond_false]

theorem span_sets18_l (k : Nat) (hk : 300 ≤ k) (a : List Sp) (h : In 0 17179869184 a) (hn : Nr (-1) a) (hl : a.length ≤ 256) : ∀ (d p : Nat) (j : Nat), a.length - p = d → p ≤ a.length → 7 * d + 2 ≤ j →
    f_u69_18 k j a [] (p : Int) 0 ((ends2 a).length : Int) ((2 * p : Nat) : Int) (ends2 a) (a.take p) = some (a, 0) := by
  intro d
  induction d with
  | zero =>
    intro p j hd hp hj
    obtain ⟨j, rfl⟩ : ∃ m, j = m + 2 := ⟨j - 2, by omega⟩
    have hpa : p = a.length := by omega
    subst hpa
    rw [f_u69_18, ends2_len, decide_eq_false (by omega), cond_false, List.take_length]
    exact span_sets_end k j a h hn hl hk
  | succ d ih =>
    intro p j hd hp hj
    obtain ⟨j, rfl⟩ : ∃ m, j = m + 7 := ⟨j - 7, by omega⟩
    have hpl : p < a.length := by omega
    have hEl := ends2_len a
    have e1 := ends2_fst a p hpl
    have e2 := ends2_snd a p hpl
    obtain ⟨n1, n2⟩ := hn.get p hpl
    have htk := take_snoc a p (0, 0) hpl
    have hd0 : T7.dflt = ((0, 0) : Sp) := rfl
    have hz : (RTy.int IntKind.i64).dflt = (0 : Int) := rfl
    generalize hs : a.getD p (0, 0) = s at *
    -- the beginning of a span
    have b18 : f_u69_18 k (j + 7) a [] (p : Int) 0 ((ends2 a).length : Int) ((2 * p : Nat) : Int) (ends2 a) (a.take p) = f_u69_20 k (j + 6) a [] (p : Int) 0 ((2 * p : Nat) : Int) s.1 ((ends2 a).length : Int) ((2 * p : Nat) : Int) (ends2 a) (a.take p) := by
      rw [show j + 7 = (j + 6) + 1 by omega, f_u69_18, decide_eq_true (by omega), cond_true, if_pos ⟨by omega, by omega⟩, Int.toNat_natCast, hz, e1]
    have b20 : f_u69_20 k (j + 6) a [] (p : Int) 0 ((2 * p : Nat) : Int) s.1 ((ends2 a).length : Int) ((2 * p : Nat) : Int) (ends2 a) (a.take p) = f_u69_22 k (j + 5) a [] (p : Int) 0 ((2 * p : Nat) : Int) s.1 ((ends2 a).length : Int) ((2 * p : Nat) : Int) (ends2 a) (a.take p) := by
      rw [show j + 6 = (j + 5) + 1 by omega, f_u69_20, if_pos ⟨fun _ => by omega, fun _ => by omega⟩, Int.toNat_natCast, hd0, hs, decide_eq_false (by omega : ¬ s.2 ≤ s.1), Bool.and_false, cond_false]
    have b22 : f_u69_22 k (j + 5) a [] (p : Int) 0 ((2 * p : Nat) : Int) s.1 ((ends2 a).length : Int) ((2 * p : Nat) : Int) (ends2 a) (a.take p) = f_u69_18 k (j + 4) a [] (p : Int) 0 ((ends2 a).length : Int) ((2 * p + 1 : Nat) : Int) (ends2 a) (a.take (p + 1)) := by
      rw [show j + 5 = (j + 4) + 1 by omega, f_u69_22, if_pos ⟨fun e => by simp at e, fun e => by simp at e⟩, show (decide ((0 : Int) < (([] : List Sp).length : Int)) && _) = false from rfl, cond_false, wrapS (2 * p) (by omega)]
      rw [if_pos ⟨fun _ => by omega, fun _ => by omega⟩, Int.toNat_natCast, hz, e2, show ((((2 * p + 1 : Nat) : Int) == ((ends2 a).length : Int)) = false) from beqf (by omega), show (s.2 == s.1) = false from beqf (by omega), Bool.or_self, cond_false]
      rw [Int.toNat_natCast, hd0, hs, decide_eq_true (by omega : (p : Int) < (a.length : Int)), decide_eq_true (by omega : s.fst ≤ s.1), Bool.and_self]
      have ek : ∀ b, v_u65 k true b = true := fun b => rfl
      have ef : ∀ b, f_u65 k true b = some true := fun b => rfl
      rw [ek, ef, if_pos ⟨fun _ => by omega, fun _ => by omega, fun e => by simp at e, fun e => by simp at e, rfl⟩, cond_true, if_pos ⟨by omega, by omega, by rw [List.length_singleton, List.length_take]; omega⟩, htk]
    -- its end
    have c18 : f_u69_18 k (j + 4) a [] (p : Int) 0 ((ends2 a).length : Int) ((2 * p + 1 : Nat) : Int) (ends2 a) (a.take (p + 1)) = f_u69_20 k (j + 3) a [] (p : Int) 0 ((2 * p + 1 : Nat) : Int) s.2 ((ends2 a).length : Int) ((2 * p + 1 : Nat) : Int) (ends2 a) (a.take (p + 1)) := by
      rw [show j + 4 = (j + 3) + 1 by omega, f_u69_18, decide_eq_true (by omega), cond_true, if_pos ⟨by omega, by omega⟩, Int.toNat_natCast, hz, e2]
    have c20 : f_u69_20 k (j + 3) a [] (p : Int) 0 ((2 * p + 1 : Nat) : Int) s.2 ((ends2 a).length : Int) ((2 * p + 1 : Nat) : Int) (ends2 a) (a.take (p + 1)) = f_u69_20 k (j + 2) a [] ((p + 1 : Nat) : Int) 0 ((2 * p + 1 : Nat) : Int) s.2 ((ends2 a).length : Int) ((2 * p + 1 : Nat) : Int) (ends2 a) (a.take (p + 1)) := by
      rw [show j + 3 = (j + 2) + 1 by omega, f_u69_20, if_pos ⟨fun _ => by omega, fun _ => by omega⟩, Int.toNat_natCast, hd0, hs, decide_eq_true (by omega : s.snd ≤ s.2), decide_eq_true (by omega : (p : Int) < (a.length : Int)), Bool.and_self, cond_true, wrapS p (by omega)]
    by_cases hlast : p + 1 < a.length
    · have n2 := n2 hlast
      have e3 := ends2_fst a (p + 1) hlast
      obtain ⟨m1, _⟩ := hn.get (p + 1) hlast
      generalize hu : a.getD (p + 1) (0, 0) = u at *
      have d20 : f_u69_20 k (j + 2) a [] ((p + 1 : Nat) : Int) 0 ((2 * p + 1 : Nat) : Int) s.2 ((ends2 a).length : Int) ((2 * p + 1 : Nat) : Int) (ends2 a) (a.take (p + 1)) = f_u69_22 k (j + 1) a [] ((p + 1 : Nat) : Int) 0 ((2 * p + 1 : Nat) : Int) s.2 ((ends2 a).length : Int) ((2 * p + 1 : Nat) : Int) (ends2 a) (a.take (p + 1)) := by
        rw [show j + 2 = (j + 1) + 1 by omega, f_u69_20, if_pos ⟨fun _ => by omega, fun _ => by omega⟩, Int.toNat_natCast, hd0, hu, decide_eq_false (by omega : ¬ u.2 ≤ s.2), Bool.and_false, cond_false]
      have d22 : f_u69_22 k (j + 1) a [] ((p + 1 : Nat) : Int) 0 ((2 * p + 1 : Nat) : Int) s.2 ((ends2 a).length : Int) ((2 * p + 1 : Nat) : Int) (ends2 a) (a.take (p + 1)) = f_u69_18 k j a [] ((p + 1 : Nat) : Int) 0 ((ends2 a).length : Int) ((2 * (p + 1) : Nat) : Int) (ends2 a) (a.take (p + 1)) := by
        rw [f_u69_22, if_pos ⟨fun e => by simp at e, fun e => by simp at e⟩, show (decide ((0 : Int) < (([] : List Sp).length : Int)) && _) = false from rfl, cond_false, wrapS (2 * p + 1) (by omega), show 2 * p + 1 + 1 = 2 * (p + 1) by omega]
        rw [if_pos ⟨fun _ => by omega, fun _ => by omega⟩, Int.toNat_natCast, hz, e3, show ((((2 * (p + 1) : Nat) : Int) == ((ends2 a).length : Int)) = false) from beqf (by omega), show (u.1 == s.2) = false from beqf (by omega), Bool.or_self, cond_false]
        rw [Int.toNat_natCast, hd0, hu, decide_eq_false (by omega : ¬ u.fst ≤ s.2), Bool.and_false]
        have ek : ∀ b, v_u65 k false b = false := fun b => rfl
        have ef : ∀ b, f_u65 k false b = some false := fun b => rfl
        rw [ek, ef, if_pos ⟨fun _ => by omega, fun _ => by omega, fun e => by simp at e, fun e => by simp at e, rfl⟩, cond_false]
      rw [b18, b20, b22, c18, c20, d20, d22]
      exact ih (p + 1) j (by omega) (by omega) (by omega)
    · have hpa : p + 1 = a.length := by omega
      have d20 : f_u69_20 k (j + 2) a [] ((p + 1 : Nat) : Int) 0 ((2 * p + 1 : Nat) : Int) s.2 ((ends2 a).length : Int) ((2 * p + 1 : Nat) : Int) (ends2 a) (a.take (p + 1)) = f_u69_22 k (j + 1) a [] ((p + 1 : Nat) : Int) 0 ((2 * p + 1 : Nat) : Int) s.2 ((ends2 a).length : Int) ((2 * p + 1 : Nat) : Int) (ends2 a) (a.take (p + 1)) := by
        rw [show j + 2 = (j + 1) + 1 by omega, f_u69_20, if_pos ⟨fun _ => by omega, fun e => of_decide_eq_true e⟩, decide_eq_false (by omega : ¬ ((p + 1 : Nat) : Int) < (a.length : Int)), Bool.false_and, cond_false]
      have d22 : f_u69_22 k (j + 1) a [] ((p + 1 : Nat) : Int) 0 ((2 * p + 1 : Nat) : Int) s.2 ((ends2 a).length : Int) ((2 * p + 1 : Nat) : Int) (ends2 a) (a.take (p + 1)) = f_u69_18 k j a [] ((p + 1 : Nat) : Int) 0 ((ends2 a).length : Int) ((2 * (p + 1) : Nat) : Int) (ends2 a) (a.take (p + 1)) := by
        rw [f_u69_22, if_pos ⟨fun e => by simp at e, fun e => by simp at e⟩, show (decide ((0 : Int) < (([] : List Sp).length : Int)) && _) = false from rfl, cond_false, wrapS (2 * p + 1) (by omega), show 2 * p + 1 + 1 = 2 * (p + 1) by omega]
        have hq : (((2 * (p + 1) : Nat) : Int) == ((ends2 a).length : Int)) = true := by simp only [beq_iff_eq]; omega
        rw [hq, if_pos (show (true = false → (0 : Int) ≤ ((2 * (p + 1) : Nat) : Int)) ∧ (true = false → ((2 * (p + 1) : Nat) : Int) < ((ends2 a).length : Int)) from ⟨fun e => (by cases e), fun e => (by cases e)⟩), Bool.true_or, cond_true]
      rw [b18, b20, b22, c18, c20, d20, d22]
      exact ih (p + 1) j (by omega) (by omega) (by omega)

theorem span_concat_s (k : Nat) (hk : 10 ≤ k) (a : List Sp) (hl : a.length ≤ 1000) : f_u56 k [a, []] = some a := by
  obtain ⟨k, rfl⟩ : ∃ m, k = m + 10 := ⟨k - 10, by omega⟩
  have hg : f_u57 (k + 10) (a.length : Int) = some [] := by
    unfold f_u57; rw [if_pos ⟨by omega, by omega⟩]
  have hv : v_u57 (k + 10) (a.length : Int) = [] := by unfold v_u57; rw [hg]; rfl
  have L2 : (([a, []] : List (List Sp)).length : Int) = 2 := rfl
  unfold f_u56
  rw [L2]
  rw [f_u56_3, L2, decide_eq_true (by omega), cond_true, if_pos (show (0 : Int) ≤ 0 ∧ (0 : Int) < 2 from ⟨by omega, by omega⟩)]
  show (bif decide (IntKind.i64.wrap (0 + (a.length : Int)) < 0) then none else f_u56_3 (k + 10) (k + 9) [a, []] (IntKind.i64.wrap (0 + (a.length : Int))) [a, []] 2 (IntKind.i64.wrap (0 + 1))) = _
  rw [wrap_id (i := 0 + (a.length : Int)) (by omega) (by omega), Int.zero_add, decide_eq_false (by omega), cond_false, show IntKind.i64.wrap (0 + 1) = 1 from wrapS 0 (by omega)]
  rw [f_u56_3, L2, decide_eq_true (by omega), cond_true, if_pos (show (0 : Int) ≤ 1 ∧ (1 : Int) < 2 from ⟨by omega, by omega⟩)]
  show (bif decide (IntKind.i64.wrap ((a.length : Int) + (0 : Int)) < 0) then none else f_u56_3 (k + 10) (k + 8) [a, []] (IntKind.i64.wrap ((a.length : Int) + (0 : Int))) [a, []] 2 (IntKind.i64.wrap (1 + 1))) = _
  rw [wrap_id (i := (a.length : Int) + (0 : Int)) (by omega) (by omega), Int.add_zero, decide_eq_false (by omega), cond_false, show IntKind.i64.wrap (1 + 1) = 2 from wrapS 1 (by omega)]
  rw [f_u56_3, decide_eq_false (by omega), cond_false, hg, hv, Option.isSome_some, if_pos rfl]
  rw [L2, f_u56_11, L2, decide_eq_true (by omega), cond_true, if_pos (show (0 : Int) ≤ 0 ∧ (0 : Int) < 2 from ⟨by omega, by omega⟩)]
  show (if (([] : List Sp).length + a.length) * 16 ≤ 140737488355328 then f_u56_11 (k + 10) (k + 6) [a, []] 2 (IntKind.i64.wrap (0 + 1)) ([] ++ a) else none) = _
  rw [if_pos (show (([] : List Sp).length + a.length) * 16 ≤ 140737488355328 by rw [List.length_nil]; omega), show IntKind.i64.wrap (0 + 1) = 1 from wrapS 0 (by omega)]
  rw [f_u56_11, L2, decide_eq_true (by omega), cond_true, if_pos (show (0 : Int) ≤ 1 ∧ (1 : Int) < 2 from ⟨by omega, by omega⟩)]
  show (if (([] ++ a : List Sp).length + ([] : List Sp).length) * 16 ≤ 140737488355328 then f_u56_11 (k + 10) (k + 5) [a, []] 2 (IntKind.i64.wrap (1 + 1)) ([] ++ a ++ []) else none) = _
  rw [if_pos (show (([] ++ a : List Sp).length + ([] : List Sp).length) * 16 ≤ 140737488355328 by rw [List.length_nil, List.nil_append]; omega), show IntKind.i64.wrap (1 + 1) = 2 from wrapS 1 (by omega)]
  rw [f_u56_11, decide_eq_false (by omega), cond_false]
  show some ([] ++ a ++ []) = some a
  simp

theorem span_sets10_l (k : Nat) (hk : 300 ≤ k) (a : List Sp) (h : In 0 17179869184 a) (hn : Nr (-1) a) (hl : a.length ≤ 256) : ∀ (j i : Nat), i ≤ a.length → (a.length - i) + (7 * a.length + 3) ≤ j →
    f_u69_10 k j a [] (a.length : Int) (i : Int) (ends2 (a.take i)) a = some (a, 0) := by
  intro j
  induction j with
  | zero => intros; omega
  | succ j ih =>
    intro i hi hj
    rw [f_u69_10]
    by_cases h' : i < a.length
    · rw [decide_eq_true (by omega : (i : Int) < (a.length : Int)), cond_true, if_pos ⟨by omega, by omega⟩, Int.toNat_natCast, if_pos (by rw [ends2_len, List.length_take]; show (2 * min i a.length + 2) * 8 ≤ _; omega), wrapS i (by omega)]
      have := ih (i + 1) (by omega) (by omega)
      rw [take_snoc a i (0, 0) h', ends2_append] at this
      exact this
    · have hs : f_u59 k (ends2 a) = some (ends2 a) := by
        unfold f_u59
        rw [if_pos (by rw [ends2_len]; omega), List.mergeSort_of_pairwise]
        exact (ends2_sorted hn).1.imp fun h => decide_eq_true h
      have hv : v_u59 k (ends2 a) = ends2 a := by unfold v_u59; rw [hs]; rfl
      rw [decide_eq_false (by omega : ¬ (i : Int) < (a.length : Int)), cond_false, List.take_of_length_le (by omega), hs, hv, Option.isSome_some, if_pos rfl]
      exact span_sets18_l k hk a h hn hl a.length 0 j (by omega) (by omega) (by omega)

theorem span_Norm_s (k : Nat) (hk : 2100 ≤ k) (l : List Sp) : f_u64 k l = some (normS l) := by
  have e : f_u69 k l [] = some (normS l) := by
    unfold f_u69 normS
    rw [span_Check_s k (by omega), span_Check_v k (by omega), span_Check_s k (by omega), span_Check_v k (by omega), Option.isSome_some, if_pos rfl]
    by_cases h1 : chkS l = 0
    · obtain ⟨l1, l2⟩ := chkS_zero.1 h1
      have hnl := nf_len l2
      have h0 : In 0 17179869184 ([] : List Sp) := trivial
      rw [show (chkS l != 0) = false by simp [h1], cond_false, if_neg (fun h : chkS l ≠ 0 => h h1), Option.isSome_some, if_pos rfl, show (chkS [] != 0) = false from rfl, cond_false]
      rw [span_joined_s k l l2 (by omega) (by omega), span_joined_v k l l2 (by omega) (by omega), span_joined_s k [] h0 (by simp) (by simp; omega), span_joined_v k [] h0 (by simp) (by simp; omega), nf_self h0 trivial, if_pos ⟨rfl, rfl⟩]
      have hc := span_concat_s k (by omega) (nf l) (by omega)
      have hv : v_u56 k [nf l, []] = nf l := by unfold v_u56; rw [hc]; rfl
      rw [hc, hv, Option.isSome_some, if_pos rfl]
      exact span_sets10_l k (by omega) (nf l) (nf_in l2) (nf_nr l2) (by omega) k 0 (by omega) (by omega)
    · rw [show (chkS l != 0) = true by simp [h1], cond_true, if_pos h1]
  have ev : v_u69 k l [] = normS l := by unfold v_u69; rw [e]; rfl
  unfold f_u64
  rw [e, ev]; rfl
theorem span_Norm_v (k : Nat) (hk : 2100 ≤ k) (l : List Sp) : v_u64 k l = normS l := by
  unfold v_u64; rw [span_Norm_s k hk]; rfl

theorem span_Total_l (k : Nat) (a : List Sp) (h : In 0 17179869184 a) (hl : a.length ≤ 256) : ∀ (j i : Nat) (n : Int), i ≤ a.length → a.length - i < j → 0 ≤ n → n ≤ (i : Int) * 17179869184 →
    f_u66_6 k j n a (a.length : Int) (i : Int) = some (n + tot (a.drop i), 0) := by
  intro j
  induction j with
  | zero => intros; omega
  | succ j ih =>
    intro i n hi hj h0 h1
    rw [f_u66_6]
    by_cases h' : i < a.length
    · have hm := h.mem (a.getD i T7.dflt) (by simp [h'])
      rw [decide_eq_true (by omega : (i : Int) < (a.length : Int)), cond_true, if_pos ⟨by omega, by omega⟩, drop_cons' a i T7.dflt h', Int.toNat_natCast]
      generalize a.getD i T7.dflt = s at hm
      rw [wrap_id (i := s.snd - s.fst) (by omega) (by omega), wrap_id (i := n + (s.snd - s.fst)) (by omega) (by omega), wrapS i (by omega), ih (i + 1) _ (by omega) (by omega) (by omega) (by omega), tot, Int.add_assoc]
    · rw [decide_eq_false (by omega : ¬ (i : Int) < (a.length : Int)), cond_false, drop_all a i (by omega)]
      simp [tot]
theorem span_Total_s (k : Nat) (hk : 300 ≤ k) (l : List Sp) : f_u66 k l = some (totalS l) := by
  unfold f_u66 totalS
  rw [span_Check_s k (by omega), span_Check_v k (by omega), Option.isSome_some, if_pos rfl]
  by_cases h1 : chkS l = 0
  · obtain ⟨l1, l2⟩ := chkS_zero.1 h1
    have hnl := nf_len l2
    rw [show (chkS l != 0) = false by simp [h1], cond_false, if_neg (fun h : chkS l ≠ 0 => h h1), span_joined_s k l l2 (by omega) (by omega), span_joined_v k l l2 (by omega) (by omega), Option.isSome_some, if_pos rfl]
    have := span_Total_l k (nf l) (nf_in l2) (by omega) k 0 0 (by omega) (by omega) (by omega) (by omega)
    rw [Int.zero_add] at this
    exact this
  · rw [show (chkS l != 0) = true by simp [h1], cond_true, if_pos h1]
theorem span_Total_v (k : Nat) (hk : 300 ≤ k) (l : List Sp) : v_u66 k l = totalS l := by
  unfold v_u66; rw [span_Total_s k hk]; rfl
end Go.AM
namespace Go.AM
open Go Go.Proofs

end Go.AM
namespace Go.AM
open Go Go.IntKind

/-! ### registers of rolls -/
abbrev Ch := Int × Int × Bool × List Rn   -- Left, Width, Turn, Runs
abbrev Ro := Int × Int × Ch               -- ID, Parent, Cut
abbrev Pt := Int × Int × Int              -- Roll, Across, Along

def look (l : List Ro) (id : Int) : Option Ro := l.find? fun r => r.1 == id

def imageS (m : List Rn) : List Sp × Int := if chk m ≠ 0 then ([], chk m) else (nf (m.map spn), 0)
def singleS (m : List Rn) : Bool := decide (chk m = 0) && (tot (nf (m.map spn)) == lenS m)

/-- the size of a roll, or of the web -/
def sizeS (l : List Ro) (W L id : Int) : Int × Int := if id = 0 then (W, L) else match look l id with
 | some r => (r.2.2.2.1, lenS r.2.2.2.2.2)
 | none => (0, 0)

/-- the error of a cut of a roll of a size -/
def cutE (c : Ch) (w n : Int) : Int :=
 if c.1 < 0 ∨ c.2.1 < 1 ∨ c.1 > w ∨ c.2.1 > w - c.1 then 20 else if chk c.2.2.2 ≠ 0 then chk c.2.2.2 else if c.2.2.2 = [] then 10
 else if singleS c.2.2.2 = false then 12 else if fitsIn n c.2.2.2 then 0 else 21
/-- the error of a roll behind others -/
def fitsS (p : List Ro) (W L : Int) (r : Ro) : Int :=
 if r.1 < 1 ∨ r.1 > 1000000 then 1 else if r.2.1 ≠ 0 ∧ look p r.2.1 = none then 7 else cutE r.2.2 (sizeS p W L r.2.1).1 (sizeS p W L r.2.1).2

def meetS (a b : List Rn) : Bool := a.any fun x => b.any fun y => decide (lo x ≤ hi y) && decide (lo y ≤ hi x)
def ovlS (a b : Ch) : Bool := (decide (a.1 < b.1 + b.2.1) && decide (b.1 < a.1 + a.2.1)) && meetS a.2.2.2 b.2.2.2
def clash (p : List Ro) (r : Ro) : Bool := p.any fun b => (r.2.1 == b.2.1) && ovlS r.2.2 b.2.2

def errsGo (W L : Int) : List Ro → List Ro → Int
 | _, [] => 0
 | p, r :: t => if fitsS p W L r ≠ 0 then fitsS p W L r else errsGo W L (p ++ [r]) t
def dupGo : List Ro → List Ro → Bool
 | _, [] => false
 | p, r :: t => (look p r.1).isSome || dupGo (p ++ [r]) t
def clashGo : List Ro → List Ro → Bool
 | _, [] => false
 | p, r :: t => clash p r || clashGo (p ++ [r]) t

/-- the error of a register -/
def checkS (l : List Ro) (W L : Int) : Int :=
 if W < 1 ∨ W > 12000 ∨ L < 0 ∨ L > 17179869184 then 1 else if l.length > 512 then 8 else if errsGo W L [] l ≠ 0 then errsGo W L [] l
 else if dupGo [] l = true then 6 else if clashGo [] l = true then 12 else 0

theorem look_append (a b : List Ro) (id : Int) : look (a ++ b) id = (look a id).or (look b id) := by
 unfold look; exact List.find?_append
theorem look_some {l : List Ro} {id : Int} {r : Ro} (h : look l id = some r) : r ∈ l ∧ r.1 = id := by
 unfold look at h
 exact ⟨List.mem_of_find?_eq_some h, by have := List.find?_some h; simpa using this⟩
structure CutOk (c : Ch) (w n : Int) : Prop where
 left : 0 ≤ c.1
 width : 1 ≤ c.2.1
 right : c.1 + c.2.1 ≤ w
 chk : Chk c.2.2.2
 ne : c.2.2.2 ≠ []
 single : singleS c.2.2.2 = true
 fits : fitsIn n c.2.2.2
theorem cutE_zero {c : Ch} {w n : Int} : cutE c w n = 0 ↔ CutOk c w n := by
 unfold cutE
 constructor
 ·intro h
  by_cases h1 : c.1 < 0 ∨ c.2.1 < 1 ∨ c.1 > w ∨ c.2.1 > w - c.1
  ·rw [if_pos h1] at h; omega
  ·rw [if_neg h1] at h
   by_cases h2 : chk c.2.2.2 ≠ 0
   ·rw [if_pos h2] at h; exact absurd h h2
   ·rw [if_neg h2] at h
    by_cases h3 : c.2.2.2 = []
    ·rw [if_pos h3] at h; omega
    ·rw [if_neg h3] at h
     by_cases h4 : singleS c.2.2.2 = false
     ·rw [if_pos h4] at h; omega
     ·rw [if_neg h4] at h
      by_cases h5 : fitsIn n c.2.2.2
      ·exact ⟨by omega, by omega, by omega, chk_zero.1 (Classical.not_not.1 h2), h3, by simpa using h4, h5⟩
      ·rw [if_neg h5] at h; omega
 ·rintro ⟨h1, h2, h3, h4, h5, h6, h7⟩
  rw [if_neg (by omega), if_neg (fun h => h (chk_zero.2 h4)), if_neg h5, if_neg (by simp [h6]), if_pos h7]
structure FitOk (p : List Ro) (W L : Int) (r : Ro) : Prop where
 id0 : 1 ≤ r.1
 id1 : r.1 ≤ 1000000
 parent : r.2.1 = 0 ∨ ∃ q, look p r.2.1 = some q
 cut : CutOk r.2.2 (sizeS p W L r.2.1).1 (sizeS p W L r.2.1).2
theorem fitsS_zero {p : List Ro} {W L : Int} {r : Ro} : fitsS p W L r = 0 ↔ FitOk p W L r := by
 unfold fitsS
 constructor
 ·intro h
  by_cases h1 : r.1 < 1 ∨ r.1 > 1000000
  ·rw [if_pos h1] at h; omega
  ·rw [if_neg h1] at h
   by_cases h2 : r.2.1 ≠ 0 ∧ look p r.2.1 = none
   ·rw [if_pos h2] at h; omega
   ·rw [if_neg h2] at h
    refine ⟨by omega, by omega, ?_, cutE_zero.1 h⟩
    by_cases h3 : r.2.1 = 0
    ·exact .inl h3
    ·right
     cases h4 : look p r.2.1 with
     | none => exact absurd ⟨h3, h4⟩ h2
     | some q => exact ⟨q, rfl⟩
 ·rintro ⟨h1, h2, h3, h4⟩
  rw [if_neg (by omega), if_neg (fun h => by
   rcases h3 with h3 | ⟨q, h3⟩
   ·exact h.1 h3
   ·rw [h3] at h; cases h.2), cutE_zero.2 h4]

/-- a valid register: each roll fits behind those before it, is of a new number, and clashes with none -/
inductive Okp (W L : Int) : List Ro → Prop
 | nil : Okp W L []
 | snoc (p : List Ro) (r : Ro) (h : Okp W L p) (f : FitOk p W L r) (n : look p r.1 = none) (c : clash p r = false) : Okp W L (p ++ [r])
structure Reg (l : List Ro) (W L : Int) : Prop where
 w : 1 ≤ W ∧ W ≤ 12000
 len : 0 ≤ L ∧ L ≤ 17179869184
 num : l.length ≤ 512
 ok : Okp W L l
theorem okp_go {W L : Int} : ∀ (t p : List Ro), Okp W L p → errsGo W L p t = 0 → dupGo p t = false → clashGo p t = false → Okp W L (p ++ t)
 | [], p, h, _, _, _ => by simpa using h
 | r :: t, p, h, he, hd, hc => by
  rw [errsGo] at he
  rw [dupGo, Bool.or_eq_false_iff] at hd
  rw [clashGo, Bool.or_eq_false_iff] at hc
  have hf : fitsS p W L r = 0 := by
   by_cases q : fitsS p W L r = 0
   ·exact q
   ·rw [if_pos q] at he; exact absurd he q
  rw [if_neg (fun h => h hf)] at he
  have := okp_go t (p ++ [r]) (.snoc p r h (fitsS_zero.1 hf) (by cases e : look p r.1 <;> simp_all) hc.1) he hd.2 hc.2
  simpa using this
theorem go_okp {W L : Int} {l : List Ro} (h : Okp W L l) : ∀ (t p : List Ro), l = p ++ t → errsGo W L p t = 0 ∧ dupGo p t = false ∧ clashGo p t = false := by
 induction h with
 | nil =>
  intro t p e
  have : t = [] ∧ p = [] := by
   have := e.symm
   simp at this
   exact ⟨this.2, this.1⟩
  obtain ⟨rfl, rfl⟩ := this
  exact ⟨rfl, rfl, rfl⟩
 | snoc q r h f n c ih =>
  intro t p e
  rcases List.eq_nil_or_concat t with rfl | ⟨t', r', rfl⟩
  ·exact ⟨rfl, rfl, rfl⟩
  ·rw [List.concat_eq_append] at *
   rw [← List.append_assoc] at e
   obtain ⟨e1, e2⟩ := List.append_inj' e rfl
   simp only [List.cons.injEq, and_true] at e2
   subst e2
   obtain ⟨i1, i2, i3⟩ := ih t' p e1
   have key : ∀ (t' p : List Ro), errsGo W L p t' = 0 → dupGo p t' = false → clashGo p t' = false → fitsS (p ++ t') W L r = 0 → look (p ++ t') r.1 = none → clash (p ++ t') r = false → errsGo W L p (t' ++ [r]) = 0 ∧ dupGo p (t' ++ [r]) = false ∧ clashGo p (t' ++ [r]) = false := fun t' => by
    induction t' with
    | nil =>
     intro p _ _ _ a b c
     rw [List.append_nil] at a b c
     rw [List.nil_append, errsGo, dupGo, clashGo, if_neg (fun h => h a), b, c]
     exact ⟨rfl, rfl, rfl⟩
    | cons u v ih =>
     intro p a1 a2 a3 a4 a5 a6
     rw [errsGo] at a1
     rw [dupGo, Bool.or_eq_false_iff] at a2
     rw [clashGo, Bool.or_eq_false_iff] at a3
     have hf : fitsS p W L u = 0 := by
      by_cases q : fitsS p W L u = 0
      ·exact q
      ·rw [if_pos q] at a1; exact absurd a1 q
     rw [if_neg (fun h => h hf)] at a1
     have e3 : p ++ u :: v = p ++ [u] ++ v := by simp
     rw [e3] at a4 a5 a6
     obtain ⟨b1, b2, b3⟩ := ih (p ++ [u]) a1 a2.2 a3.2 a4 a5 a6
     rw [List.cons_append, errsGo, dupGo, clashGo, if_neg (fun h => h hf), a2.1, a3.1]
     exact ⟨b1, b2, b3⟩
   rw [e1] at f n c
   exact key t' p i1 i2 i3 (fitsS_zero.2 f) n c
theorem checkS_zero {l : List Ro} {W L : Int} : checkS l W L = 0 ↔ Reg l W L := by
 unfold checkS
 constructor
 ·intro h
  by_cases h1 : W < 1 ∨ W > 12000 ∨ L < 0 ∨ L > 17179869184
  ·rw [if_pos h1] at h; omega
  ·rw [if_neg h1] at h
   by_cases h2 : l.length > 512
   ·rw [if_pos h2] at h; omega
   ·rw [if_neg h2] at h
    by_cases h3 : errsGo W L [] l ≠ 0
    ·rw [if_pos h3] at h; exact absurd h h3
    ·rw [if_neg h3] at h
     by_cases h4 : dupGo [] l = true
     ·rw [if_pos h4] at h; omega
     ·rw [if_neg h4] at h
      by_cases h5 : clashGo [] l = true
      ·rw [if_pos h5] at h; omega
      ·have := okp_go l [] (W := W) (L := L) .nil (Classical.not_not.1 h3) (by simpa using h4) (by simpa using h5)
       exact ⟨by omega, by omega, by omega, by simpa using this⟩
 ·rintro ⟨h1, h2, h3, h4⟩
  obtain ⟨a, b, c⟩ := go_okp h4 l [] rfl
  rw [if_neg (by omega), if_neg (by omega), if_neg (fun h => h a), if_neg (by rw [b]; decide), if_neg (by rw [c]; decide)]
end Go.AM
namespace Go.AM
open Go Go.Proofs

/-! ### images, and whether they are single -/
theorem spn_in {m : List Rn} (h : goods m) : In 0 17179869184 (m.map spn) := In.of fun s hs => by
  obtain ⟨r, hr, rfl⟩ := List.mem_map.1 hs
  obtain ⟨a, b, c, d⟩ := (h.mem r hr).lohi
  exact ⟨a, by show lo r ≤ hi r + 1; omega, by show hi r + 1 ≤ _; omega⟩
theorem normS_spn {m : List Rn} (h : Chk m) : normS (m.map spn) = (nf (m.map spn), 0) := by
  unfold normS
  rw [if_neg (fun e => e (chkS_zero.2 ⟨by rw [List.length_map]; exact h.len, spn_in h.goods⟩))]
theorem totalS_nf {m : List Rn} (h : Chk m) : totalS (nf (m.map spn)) = (tot (nf (m.map spn)), 0) := by
  have hi := spn_in h.goods
  have hl := nf_len hi
  have hm := h.len
  rw [List.length_map] at hl
  unfold totalS
  rw [if_neg (fun e => e (chkS_zero.2 ⟨by omega, nf_in hi⟩)), nf_self (nf_in hi) (nf_nr hi)]

theorem iso_images_s (k : Nat) (r : Rn) (h : good r) : f_u43 k r = some (spn r) := by
  have h' := h
  obtain ⟨g1, g2, g3, g4, _⟩ := h'
  obtain ⟨l1, l2, l3, l4⟩ := h.lohi
  unfold f_u43
  rw [wrap_id (i := r.snd.fst - 1) (by omega) (by omega), iso_image_s k r _ (by omega) (by omega) (by omega) (by omega), iso_image_v k r _ (by omega) (by omega) (by omega) (by omega), max_ends h, min_ends h, wrap_id (by omega) (by omega)]
  rfl
theorem iso_images_v (k : Nat) (r : Rn) (h : good r) : v_u43 k r = spn r := by
  unfold v_u43; rw [iso_images_s k r h]; rfl

theorem iso_Image_l (k : Nat) (hk : 2100 ≤ k) (m : List Rn) (hc : Chk m) : ∀ (j i : Nat), i ≤ m.length → m.length - i + 1 < j →
    f_u34_6 k j m (m.length : Int) (i : Int) ((m.take i).map spn) = some (nf (m.map spn), 0) := by
  have hml := hc.len
  intro j
  induction j with
  | zero => intros; omega
  | succ j ih =>
    intro i hi hj
    rw [f_u34_6]
    by_cases h : i < m.length
    · have hgr : good (m.getD i T0.dflt) := hc.goods.mem _ (by simp [h])
      have ht := take_snoc m i T0.dflt h
      have := ih (i + 1) (by omega) (by omega)
      rw [ht, List.map_append] at this
      rw [decide_eq_true (by omega : (i : Int) < (m.length : Int)), cond_true, if_pos ⟨by omega, by omega⟩, Int.toNat_natCast, iso_images_s k _ hgr, iso_images_v k _ hgr, if_pos ⟨rfl, by rw [List.length_map, List.length_take, List.length_singleton]; omega⟩, wrapS i (by omega)]
      exact this
    · obtain ⟨j, rfl⟩ : ∃ q, j = q + 1 := ⟨j - 1, by omega⟩
      rw [decide_eq_false (by omega : ¬ (i : Int) < (m.length : Int)), cond_false, List.take_of_length_le (by omega), f_u34_10, span_Norm_s k hk, span_Norm_v k hk, normS_spn hc]
      rfl
theorem iso_Image_s (k : Nat) (hk : 2100 ≤ k) (m : List Rn) : f_u34 k m = some (imageS m) := by
  unfold f_u34 imageS
  rw [iso_Check_s k (by omega), iso_Check_v k (by omega), Option.isSome_some, if_pos rfl]
  by_cases h1 : chk m = 0
  · have hc := chk_zero.1 h1
    have hml := hc.len
    rw [show (chk m != 0) = false by simp [h1], cond_false, if_neg (fun h : chk m ≠ 0 => h h1)]
    exact iso_Image_l k hk m hc k 0 (by omega) (by omega)
  · rw [show (chk m != 0) = true by simp [h1], cond_true, if_pos h1]
theorem iso_Image_v (k : Nat) (hk : 2100 ≤ k) (m : List Rn) : v_u34 k m = imageS m := by
  unfold v_u34; rw [iso_Image_s k hk]; rfl

theorem iso_Single_s (k : Nat) (hk : 2100 ≤ k) (m : List Rn) : f_u36 k m = some (singleS m) := by
  unfold f_u36 singleS
  rw [iso_Image_s k hk, iso_Image_v k hk, Option.isSome_some, if_pos rfl]
  unfold imageS
  by_cases h1 : chk m = 0
  · have hc := chk_zero.1 h1
    have hml := hc.len
    rw [if_neg (fun h : chk m ≠ 0 => h h1), decide_eq_true h1, Bool.true_and]
    show (bif (0 : Int) != 0 then _ else _) = _
    rw [show ((0 : Int) != 0) = false from rfl, cond_false]
    show (if (f_u66 k (nf (m.map spn))).isSome = true then _ else none) = _
    rw [span_Total_s k (by omega)]
    show (bif ((v_u66 k (nf (m.map spn))).snd == 0) then _ else _) = _
    rw [span_Total_v k (by omega), totalS_nf hc, iso_length_s k m hc.goods (by omega) (by omega), iso_length_v k m hc.goods (by omega) (by omega)]
    rfl
  · rw [if_pos h1, decide_eq_false h1, Bool.false_and]
    show (bif chk m != 0 then some false else _) = _
    rw [show (chk m != 0) = true by simp [h1], cond_true]
theorem iso_Single_v (k : Nat) (hk : 2100 ≤ k) (m : List Rn) : v_u36 k m = singleS m := by
  unfold v_u36; rw [iso_Single_s k hk]; rfl

end Go.AM
namespace Go.AM
open Go Go.Proofs Go.IntKind
set_option linter.unusedVariables false
noncomputable section
abbrev R_u11 : Type := Int × Int
def res_u11 (r : R_u11) : AV := .tup [.r (.v (.int .i64 r.1)), .r (.v (.int .i64 r.2))]
def bo_u11 (x_ : T0.T) (r : R_u11) : List (Nat × Blk) := []
def args_u11 (x_ : T0.T) : List AV := [.agg (rvs (enc T0 x_))]
def bin_u11 (x_ : T0.T) : List Blk := []
def f_u11 (k : Nat) (x_ : T0.T) : Option R_u11 :=
 bif x_.2.2 then
 some ((i64.wrap (i64.wrap (x_.1 - x_.2.1) + 1), x_.1))
 else
 some ((x_.1, i64.wrap (i64.wrap (x_.1 + x_.2.1) - 1)))
def v_u11 (k : Nat) (x_ : T0.T) : R_u11 := (f_u11 k x_).getD (0, 0)
def K_u11 (k : Nat) : Calld := ⟨fun g xs => match g with
 | _ => none, fun g xs bs => match g with
 | _ => none⟩
theorem of_u11 (k : Nat) (x_ : T0.T) (r : R_u11) (h : f_u11 k x_ = some r) : CC Try.prog 41 (args_u11 x_) (bin_u11 x_) (res_u11 r) (bo_u11 x_ r) := by
 refine CC.of (fn := Try.f41) (by kernel_rfl) (by kernel_rfl) (by kernel_rfl) (by kernel_rfl) ?_
 unfold f_u11 at h
 refine Ev.tree hm (R := Rt) (K := (K_u11 k)) (l := []) (C := []) (E := [.autoB [2, 3] true []]) (n := 1000) (T := .test (x_.2.2) (.leaf (res_u11 ((i64.wrap (i64.wrap (x_.1 - x_.2.1) + 1), x_.1))) (bo_u11 x_ ((i64.wrap (i64.wrap (x_.1 - x_.2.1) + 1), x_.1)))) (.leaf (res_u11 ((x_.1, i64.wrap (i64.wrap (x_.1 + x_.2.1) - 1)))) (bo_u11 x_ ((x_.1, i64.wrap (i64.wrap (x_.1 + x_.2.1) - 1)))))) (by kernel_rfl) ?_
 refine ⟨fun c => ?_, fun c => ?_⟩
 ·rw [cond_t (show x_.2.2 = true from c)] at h
  cases h; exact ⟨rfl, rfl⟩
 ·rw [cond_f (show x_.2.2 = false from c)] at h
  cases h; exact ⟨rfl, rfl⟩
theorem cc_u11 (k : Nat) (x_ : T0.T) (h : (f_u11 k x_).isSome = true) : CC Try.prog 41 (args_u11 x_) (bin_u11 x_) (res_u11 (v_u11 k x_)) (bo_u11 x_ (v_u11 k x_)) := by
 cases e : f_u11 k x_ with
 | none => rw [e] at h; cases h
 | some r => rw [show v_u11 k x_ = r by simp [v_u11, e]]; exact of_u11 k x_ r e

end
end Go.AM
namespace Go.AM
open Go Go.Proofs Go.IntKind
set_option linter.unusedVariables false
noncomputable section
abbrev R_u15 : Type := Bool
def res_u15 (r : R_u15) : AV := .r (.v (.bool r))
def bo_u15 (a_ : T1.T) (b_ : T1.T) (r : R_u15) : List (Nat × Blk) := []
def args_u15 (a_ : T1.T) (b_ : T1.T) : List AV := [.agg (rvs (enc T1 a_)), .agg (rvs (enc T1 b_))]
def bin_u15 (a_ : T1.T) (b_ : T1.T) : List Blk := []
def st_u15_4 (y0 : List (T0).T) (y1 : Int) (y2 : Int) (y3 : T1.T) : St := ⟨mkS 65 [(3, .ptr 1000000 0 0), (32, .r (.ro T0 y0)), (33, .r (.v (.int .i64 y1))), (34, .r (.v (.int .i64 y2)))], [(1000000, 0, .var 38 (rvs (enc T1 y3)))]⟩
def st_u15_8 (y0 : Int) (y1 : Int) (y2 : List (T0).T) (y3 : Int) (y4 : Int) (y5 : List (T0).T) (y6 : Int) (y7 : Int) (y8 : T1.T) : St := ⟨mkS 65 [(3, .ptr 1000000 0 0), (7, .r (.v (.int .i64 y0))), (8, .r (.v (.int .i64 y1))), (32, .r (.ro T0 y2)), (33, .r (.v (.int .i64 y3))), (34, .r (.v (.int .i64 y4))), (44, .r (.ro T0 y5)), (45, .r (.v (.int .i64 y6))), (46, .r (.v (.int .i64 y7)))], [(1000000, 0, .var 38 (rvs (enc T1 y8)))]⟩
mutual
def f_u15_4 (k : Nat) : Nat → List (T0).T → Int → Int → T1.T → Option R_u15
 | 0, _, _, _, _ => none
 | j + 1, y0, y1, y2, y3 =>
 bif (decide (y2 < y1)) then
 if (0 ≤ y2) ∧ (y2 < (↑y0.length : Int)) then
 if ((f_u11 k (y0.getD y2.toNat T0.dflt)).isSome = true) then
 f_u15_8 k j ((v_u11 k (y0.getD y2.toNat T0.dflt)).1) ((v_u11 k (y0.getD y2.toNat T0.dflt)).2) y0 y1 y2 y3.2.2.2 ((↑ (List.length y3.2.2.2) : Int)) 0 y3
 else none
 else none
 else
 some false
def f_u15_8 (k : Nat) : Nat → Int → Int → List (T0).T → Int → Int → List (T0).T → Int → Int → T1.T → Option R_u15
 | 0, _, _, _, _, _, _, _, _, _ => none
 | j + 1, y0, y1, y2, y3, y4, y5, y6, y7, y8 =>
 bif (decide (y7 < y6)) then
 if (0 ≤ y7) ∧ (y7 < (↑y5.length : Int)) then
 if ((f_u11 k (y5.getD y7.toNat T0.dflt)).isSome = true) then
 bif (decide (y0 ≤ (v_u11 k (y5.getD y7.toNat T0.dflt)).2) && decide ((v_u11 k (y5.getD y7.toNat T0.dflt)).1 ≤ y1)) then
 some true
 else
 f_u15_8 k j y0 y1 y2 y3 y4 y5 y6 ((i64.wrap (y7 + 1))) y8
 else none
 else none
 else
 f_u15_4 k j y2 y3 ((i64.wrap (y4 + 1))) y8
end
def f_u15 (k : Nat) (a_ : T1.T) (b_ : T1.T) : Option R_u15 :=
 bif (decide (i64.wrap (a_.1 + a_.2.1) ≤ b_.1) || decide (i64.wrap (b_.1 + b_.2.1) ≤ a_.1)) then
 some false
 else
 f_u15_4 k k a_.2.2.2 ((↑ (List.length a_.2.2.2) : Int)) 0 b_
def v_u15 (k : Nat) (a_ : T1.T) (b_ : T1.T) : R_u15 := (f_u15 k a_ b_).getD false
def K_u15 (k : Nat) : Calld := ⟨fun g xs => match g with
 | 41 => match xs with
  | [_] => some [false]
  | _ => none
 | _ => none, fun g xs bs => match g with
 | 41 => match xs, bs with
  | [.agg qx_], [] => (decS [] T0 qx_).bind fun x_ => some (.one (res_u11 (v_u11 k x_), bo_u11 x_ (v_u11 k x_)))
  | _, _ => none
 | _ => none⟩
theorem ev_u15 (k : Nat) (a_ : T1.T) (b_ : T1.T) : ∀ j, (∀ (y0 : List (T0).T) (y1 : Int) (y2 : Int) (y3 : T1.T) (r : R_u15), f_u15_4 k j y0 y1 y2 y3 = some r → Ev Try.prog Try.f34 0 (placeAt Try.f34 4) (st_u15_4 y0 y1 y2 y3) (res_u15 r) (bo_u15 a_ b_ r)) ∧ (∀ (y0 : Int) (y1 : Int) (y2 : List (T0).T) (y3 : Int) (y4 : Int) (y5 : List (T0).T) (y6 : Int) (y7 : Int) (y8 : T1.T) (r : R_u15), f_u15_8 k j y0 y1 y2 y3 y4 y5 y6 y7 y8 = some r → Ev Try.prog Try.f34 0 (placeAt Try.f34 8) (st_u15_8 y0 y1 y2 y3 y4 y5 y6 y7 y8) (res_u15 r) (bo_u15 a_ b_ r))
 | 0 => by
  refine ⟨?_, ?_⟩ <;> intros <;> rename_i h <;> simp [f_u15_4, f_u15_8] at h
 | j + 1 => by
  have ih := ev_u15 k a_ b_ j
  refine ⟨?_, ?_⟩
  ·intro y0 y1 y2 y3 r h
   rw [f_u15_4] at h
   refine Ev.tree hm (R := Rt) (K := (K_u15 k)) (l := []) (C := [(4, [.autoB [3, 32, 33, 34] false []]), (8, [.autoB [3, 7, 8, 32, 33, 34, 44, 45, 46] false []])]) (E := [.autoB [4] true []]) (n := 1000) (T := .test ((decide (y2 < y1))) (.need [0 ≤ y2, y2 < (↑y0.length : Int)] (.need [CC Try.prog 41 (args_u11 (y0.getD y2.toNat T0.dflt)) (bin_u11 (y0.getD y2.toNat T0.dflt)) (res_u11 (v_u11 k (y0.getD y2.toNat T0.dflt))) (bo_u11 (y0.getD y2.toNat T0.dflt) (v_u11 k (y0.getD y2.toNat T0.dflt)))] (.cut 8 (placeAt Try.f34 8) (st_u15_8 ((v_u11 k (y0.getD y2.toNat T0.dflt)).1) ((v_u11 k (y0.getD y2.toNat T0.dflt)).2) y0 y1 y2 y3.2.2.2 ((↑ (List.length y3.2.2.2) : Int)) 0 y3)))) (.leaf (res_u15 false) (bo_u15 a_ b_ false))) (by kernel_rfl) ?_
   refine ⟨fun c => ?_, fun c => ?_⟩
   ·rw [cond_t (show ((decide (y2 < y1))) = true from c)] at h
    by_cases q : (0 ≤ y2) ∧ (y2 < (↑y0.length : Int))
    ·rw [if_pos q] at h
     refine ⟨(conjC q.1 (conjC q.2 conj0)), ?_⟩
     by_cases q : ((f_u11 k (y0.getD y2.toNat T0.dflt)).isSome = true)
     ·rw [if_pos q] at h
      refine ⟨(conjC (cc_u11 k (y0.getD y2.toNat T0.dflt) q) conj0), ?_⟩
      exact ih.2 ((v_u11 k (y0.getD y2.toNat T0.dflt)).1) ((v_u11 k (y0.getD y2.toNat T0.dflt)).2) y0 y1 y2 y3.2.2.2 ((↑ (List.length y3.2.2.2) : Int)) 0 y3 _ h
     ·rw [if_neg q] at h; cases h
    ·rw [if_neg q] at h; cases h
   ·rw [cond_f (show ((decide (y2 < y1))) = false from c)] at h
    cases h; exact ⟨rfl, rfl⟩
  ·intro y0 y1 y2 y3 y4 y5 y6 y7 y8 r h
   rw [f_u15_8] at h
   refine Ev.tree hm (R := Rt) (K := (K_u15 k)) (l := []) (C := [(4, [.autoB [3, 32, 33, 34] false []]), (8, [.autoB [3, 7, 8, 32, 33, 34, 44, 45, 46] false []])]) (E := [.autoB [4] true []]) (n := 1000) (T := .test ((decide (y7 < y6))) (.need [0 ≤ y7, y7 < (↑y5.length : Int)] (.need [CC Try.prog 41 (args_u11 (y5.getD y7.toNat T0.dflt)) (bin_u11 (y5.getD y7.toNat T0.dflt)) (res_u11 (v_u11 k (y5.getD y7.toNat T0.dflt))) (bo_u11 (y5.getD y7.toNat T0.dflt) (v_u11 k (y5.getD y7.toNat T0.dflt)))] (.test ((decide (y0 ≤ (v_u11 k (y5.getD y7.toNat T0.dflt)).2) && decide ((v_u11 k (y5.getD y7.toNat T0.dflt)).1 ≤ y1))) (.leaf (res_u15 true) (bo_u15 a_ b_ true)) (.cut 8 (placeAt Try.f34 8) (st_u15_8 y0 y1 y2 y3 y4 y5 y6 ((i64.wrap (y7 + 1))) y8))))) (.cut 4 (placeAt Try.f34 4) (st_u15_4 y2 y3 ((i64.wrap (y4 + 1))) y8))) (by kernel_rfl) ?_
   refine ⟨fun c => ?_, fun c => ?_⟩
   ·rw [cond_t (show ((decide (y7 < y6))) = true from c)] at h
    by_cases q : (0 ≤ y7) ∧ (y7 < (↑y5.length : Int))
    ·rw [if_pos q] at h
     refine ⟨(conjC q.1 (conjC q.2 conj0)), ?_⟩
     by_cases q : ((f_u11 k (y5.getD y7.toNat T0.dflt)).isSome = true)
     ·rw [if_pos q] at h
      refine ⟨(conjC (cc_u11 k (y5.getD y7.toNat T0.dflt) q) conj0), ?_⟩
      refine ⟨fun c => ?_, fun c => ?_⟩
      ·rw [cond_t (show ((decide (y0 ≤ (v_u11 k (y5.getD y7.toNat T0.dflt)).2) && decide ((v_u11 k (y5.getD y7.toNat T0.dflt)).1 ≤ y1))) = true from c)] at h
       cases h; exact ⟨rfl, rfl⟩
      ·rw [cond_f (show ((decide (y0 ≤ (v_u11 k (y5.getD y7.toNat T0.dflt)).2) && decide ((v_u11 k (y5.getD y7.toNat T0.dflt)).1 ≤ y1))) = false from c)] at h
       exact ih.2 y0 y1 y2 y3 y4 y5 y6 ((i64.wrap (y7 + 1))) y8 _ h
     ·rw [if_neg q] at h; cases h
    ·rw [if_neg q] at h; cases h
   ·rw [cond_f (show ((decide (y7 < y6))) = false from c)] at h
    exact ih.1 y2 y3 ((i64.wrap (y4 + 1))) y8 _ h
theorem of_u15 (k : Nat) (a_ : T1.T) (b_ : T1.T) (r : R_u15) (h : f_u15 k a_ b_ = some r) : CC Try.prog 34 (args_u15 a_ b_) (bin_u15 a_ b_) (res_u15 r) (bo_u15 a_ b_ r) := by
 refine CC.of (fn := Try.f34) (by kernel_rfl) (by kernel_rfl) (by kernel_rfl) (by kernel_rfl) ?_
 unfold f_u15 at h
 refine Ev.tree hm (R := Rt) (K := (K_u15 k)) (l := []) (C := [(4, [.autoB [3, 32, 33, 34] false []]), (8, [.autoB [3, 7, 8, 32, 33, 34, 44, 45, 46] false []])]) (E := [.autoB [4] true []]) (n := 1000) (T := .test ((decide (i64.wrap (a_.1 + a_.2.1) ≤ b_.1) || decide (i64.wrap (b_.1 + b_.2.1) ≤ a_.1))) (.leaf (res_u15 false) (bo_u15 a_ b_ false)) (.cut 4 (placeAt Try.f34 4) (st_u15_4 a_.2.2.2 ((↑ (List.length a_.2.2.2) : Int)) 0 b_))) (by kernel_rfl) ?_
 refine ⟨fun c => ?_, fun c => ?_⟩
 ·rw [cond_t (show ((decide (i64.wrap (a_.1 + a_.2.1) ≤ b_.1) || decide (i64.wrap (b_.1 + b_.2.1) ≤ a_.1))) = true from c)] at h
  cases h; exact ⟨rfl, rfl⟩
 ·rw [cond_f (show ((decide (i64.wrap (a_.1 + a_.2.1) ≤ b_.1) || decide (i64.wrap (b_.1 + b_.2.1) ≤ a_.1))) = false from c)] at h
  exact (ev_u15 k a_ b_ k).1 a_.2.2.2 ((↑ (List.length a_.2.2.2) : Int)) 0 b_ _ h
theorem cc_u15 (k : Nat) (a_ : T1.T) (b_ : T1.T) (h : (f_u15 k a_ b_).isSome = true) : CC Try.prog 34 (args_u15 a_ b_) (bin_u15 a_ b_) (res_u15 (v_u15 k a_ b_)) (bo_u15 a_ b_ (v_u15 k a_ b_)) := by
 cases e : f_u15 k a_ b_ with
 | none => rw [e] at h; cases h
 | some r => rw [show v_u15 k a_ b_ = r by simp [v_u15, e]]; exact of_u15 k a_ b_ r e

end
end Go.AM
namespace Go.AM
open Go Go.Proofs Go.IntKind
set_option linter.unusedVariables false
noncomputable section
abbrev R_u35 : Type := Int × Int
def res_u35 (r : R_u35) : AV := .tup [.r (.v (.int .i64 r.1)), .r (.v (.int .i64 r.2))]
def bo_u35 (m_ : List (T0).T) (r : R_u35) : List (Nat × Blk) := []
def args_u35 (m_ : List (T0).T) : List AV := [.r (.ro T0 m_)]
def bin_u35 (m_ : List (T0).T) : List Blk := []
def f_u35 (k : Nat) (m_ : List (T0).T) : Option R_u35 :=
 if ((f_u31 k m_).isSome = true) then
 bif (v_u31 k m_ != (0 : Int)) then
 some ((0, v_u31 k m_))
 else
 if ((f_u44 k m_).isSome = true) then
 some ((v_u44 k m_, 0))
 else none
 else none
def v_u35 (k : Nat) (m_ : List (T0).T) : R_u35 := (f_u35 k m_).getD (0, 0)
def K_u35 (k : Nat) : Calld := ⟨fun g xs => match g with
 | 24 => match xs with
  | [_] => some [false]
  | _ => none
 | 25 => match xs with
  | [_] => some [false]
  | _ => none
 | _ => none, fun g xs bs => match g with
 | 24 => match xs, bs with
  | [.r (.ro tm__ qm_)], [] => (castL tm__ T0 qm_).bind fun m_ => some (.one (res_u31 (v_u31 k m_), bo_u31 m_ (v_u31 k m_)))
  | _, _ => none
 | 25 => match xs, bs with
  | [.r (.ro tm__ qm_)], [] => (castL tm__ T0 qm_).bind fun m_ => some (.one (res_u44 (v_u44 k m_), bo_u44 m_ (v_u44 k m_)))
  | _, _ => none
 | _ => none⟩
theorem of_u35 (k : Nat) (m_ : List (T0).T) (r : R_u35) (h : f_u35 k m_ = some r) : CC Try.prog 39 (args_u35 m_) (bin_u35 m_) (res_u35 r) (bo_u35 m_ r) := by
 refine CC.of (fn := Try.f39) (by kernel_rfl) (by kernel_rfl) (by kernel_rfl) (by kernel_rfl) ?_
 unfold f_u35 at h
 refine Ev.tree hm (R := Rt) (K := (K_u35 k)) (l := []) (C := []) (E := [.autoB [2, 3] true []]) (n := 1000) (T := .need [CC Try.prog 24 (args_u31 m_) (bin_u31 m_) (res_u31 (v_u31 k m_)) (bo_u31 m_ (v_u31 k m_))] (.test ((v_u31 k m_ != (0 : Int))) (.leaf (res_u35 ((0, v_u31 k m_))) (bo_u35 m_ ((0, v_u31 k m_)))) (.need [CC Try.prog 25 (args_u44 m_) (bin_u44 m_) (res_u44 (v_u44 k m_)) (bo_u44 m_ (v_u44 k m_))] (.leaf (res_u35 ((v_u44 k m_, 0))) (bo_u35 m_ ((v_u44 k m_, 0))))))) (by kernel_rfl) ?_
 by_cases q : ((f_u31 k m_).isSome = true)
 ·rw [if_pos q] at h
  refine ⟨(conjC (cc_u31 k m_ q) conj0), ?_⟩
  refine ⟨fun c => ?_, fun c => ?_⟩
  ·rw [cond_t (show ((v_u31 k m_ != (0 : Int))) = true from c)] at h
   cases h; exact ⟨rfl, rfl⟩
  ·rw [cond_f (show ((v_u31 k m_ != (0 : Int))) = false from c)] at h
   by_cases q : ((f_u44 k m_).isSome = true)
   ·rw [if_pos q] at h
    refine ⟨(conjC (cc_u44 k m_ q) conj0), ?_⟩
    cases h; exact ⟨rfl, rfl⟩
   ·rw [if_neg q] at h; cases h
 ·rw [if_neg q] at h; cases h
theorem cc_u35 (k : Nat) (m_ : List (T0).T) (h : (f_u35 k m_).isSome = true) : CC Try.prog 39 (args_u35 m_) (bin_u35 m_) (res_u35 (v_u35 k m_)) (bo_u35 m_ (v_u35 k m_)) := by
 cases e : f_u35 k m_ with
 | none => rw [e] at h; cases h
 | some r => rw [show v_u35 k m_ = r by simp [v_u35, e]]; exact of_u35 k m_ r e

end
end Go.AM
namespace Go.AM
open Go Go.Proofs

theorem getD_mem' {α : Type} (l : List α) (i : Nat) (d : α) (h : i < l.length) : l.getD i d ∈ l := by simp [h]
theorem getD_app {α : Type} (p t : List α) (i : Nat) (d : α) (h : i < p.length) : (p ++ t).getD i d = p.getD i d := by simp [List.getElem?_append_left h]
/-! ### the ends of runs, and whether cuts meet -/
theorem fam_bounds_s (k : Nat) (r : Rn) (h : good r) : f_u11 k r = some (lo r, Go.AM.hi r) := by
  obtain ⟨h1, h2, h3, h4, h5, h6⟩ := h
  unfold f_u11 lo Go.AM.hi
  cases hb : r.2.2
  · have := h6 hb
    rw [cond_false, wrap_id (i := r.1 + r.2.1) (by omega) (by omega), wrap_id (by omega) (by omega)]; rfl
  · have := h5 hb
    rw [cond_true, wrap_id (i := r.1 - r.2.1) (by omega) (by omega), wrap_id (by omega) (by omega)]; rfl
theorem fam_bounds_v (k : Nat) (r : Rn) (h : good r) : v_u11 k r = (lo r, Go.AM.hi r) := by
  unfold v_u11; rw [fam_bounds_s k r h]; rfl
def touch (x y : Rn) : Bool := decide (lo x ≤ Go.AM.hi y) && decide (lo y ≤ Go.AM.hi x)
theorem meetS_eq (a b : List Rn) : meetS a b = a.any fun x => b.any fun y => touch x y := rfl

theorem fam_overlap_8 (k : Nat) (x : Rn) (a : List Rn) (la i : Int) (c : Ch) (m : List Rn) (hm : goods m) (hl : m.length ≤ 256) : ∀ (d q n : Nat), q + d = m.length →
    f_u15_8 k (n + d + 1) (lo x) (Go.AM.hi x) a la i m (m.length : Int) (q : Int) c = if (m.drop q).any (touch x) = true then some true else f_u15_4 k n a la (IntKind.i64.wrap (i + 1)) c := by
  intro d
  induction d with
  | zero =>
    intro q n hq
    rw [f_u15_8, decide_eq_false (by omega : ¬ (q : Int) < (m.length : Int)), cond_false, List.drop_of_length_le (by omega), List.any_nil, if_neg (by decide)]
  | succ d ih =>
    intro q n hq
    have hg : good (m.getD q T0.dflt) := hm.mem _ (getD_mem' _ _ _ (by omega))
    rw [show n + (d + 1) + 1 = (n + d + 1) + 1 from rfl, f_u15_8, decide_eq_true (by omega : (q : Int) < (m.length : Int)), cond_true, if_pos ⟨by omega, by omega⟩, Int.toNat_natCast, fam_bounds_s k _ hg, fam_bounds_v k _ hg, Option.isSome_some, if_pos rfl, drop_cons' m q T0.dflt (by omega), List.any_cons, wrapS q (by omega), ih (q + 1) n (by omega)]
    show (bif touch x (m.getD q T0.dflt) then _ else _) = _
    cases touch x (m.getD q T0.dflt)
    · rw [cond_false, Bool.false_or]
    · rw [cond_true, Bool.true_or, if_pos rfl]
set_option maxRecDepth 20000 in
theorem fam_overlap_4 (k : Nat) (a : List Rn) (ha : goods a) (hl : a.length ≤ 256) (c : Ch) (hc : goods c.2.2.2) (hcl : c.2.2.2.length ≤ 256) : ∀ (d i j : Nat), i + d = a.length → d * 258 < j →
    f_u15_4 k j a (a.length : Int) (i : Int) c = some (meetS (a.drop i) c.2.2.2) := by
  intro d
  induction d with
  | zero =>
    intro i j hi hj
    obtain ⟨j, rfl⟩ : ∃ q, j = q + 1 := ⟨j - 1, by omega⟩
    rw [f_u15_4, decide_eq_false (by omega : ¬ (i : Int) < (a.length : Int)), cond_false, List.drop_of_length_le (by omega)]
    rfl
  | succ d ih =>
    intro i j hi hj
    obtain ⟨j, rfl⟩ : ∃ q, j = (q + c.2.2.2.length + 1) + 1 := ⟨j - c.2.2.2.length - 2, by omega⟩
    have hg : good (a.getD i T0.dflt) := ha.mem _ (getD_mem' _ _ _ (by omega))
    have h8 := fam_overlap_8 k (a.getD i T0.dflt) a (a.length : Int) (i : Int) c c.2.2.2 hc hcl c.2.2.2.length 0 j (by omega)
    rw [f_u15_4, decide_eq_true (by omega : (i : Int) < (a.length : Int)), cond_true, if_pos ⟨by omega, by omega⟩, Int.toNat_natCast, fam_bounds_s k _ hg, fam_bounds_v k _ hg, Option.isSome_some, if_pos rfl, drop_cons' a i T0.dflt (by omega), meetS_eq, List.any_cons]
    refine (h8.trans ?_)
    rw [List.drop_zero, wrapS i (by omega), ih (i + 1) j (by omega) (by omega), meetS_eq]
    by_cases h : (c.2.2.2.any (touch (a.getD i T0.dflt))) = true
    · rw [if_pos h, show (c.2.2.2.any fun y => touch (a.getD i T0.dflt) y) = true from h, Bool.true_or]
    · rw [if_neg h, show (c.2.2.2.any fun y => touch (a.getD i T0.dflt) y) = false from by simpa using h, Bool.false_or]
/-- a cut whose numbers do not overflow -/
structure Small (c : Ch) : Prop where
  l0 : 0 ≤ c.1
  w0 : 1 ≤ c.2.1
  r0 : c.1 + c.2.1 ≤ 12000
  chk : Chk c.2.2.2
theorem fam_overlap_s (k : Nat) (hk : 70000 ≤ k) (a b : Ch) (ha : Small a) (hb : Small b) : f_u15 k a b = some (ovlS a b) := by
  obtain ⟨a1, a2, a3, a4⟩ := ha
  obtain ⟨b1, b2, b3, b4⟩ := hb
  unfold f_u15 ovlS
  rw [wrap_id (i := a.1 + a.2.1) (by omega) (by omega), wrap_id (i := b.1 + b.2.1) (by omega) (by omega)]
  by_cases h1 : a.1 + a.2.1 ≤ b.1
  · rw [decide_eq_true h1, Bool.true_or, cond_true, decide_eq_false (by omega : ¬ b.1 < a.1 + a.2.1), Bool.and_false, Bool.false_and]
  · by_cases h2 : b.1 + b.2.1 ≤ a.1
    · rw [decide_eq_true h2, Bool.or_true, cond_true, decide_eq_false (by omega : ¬ a.1 < b.1 + b.2.1), Bool.false_and, Bool.false_and]
    · rw [decide_eq_false h1, decide_eq_false h2, Bool.or_false, cond_false, decide_eq_true (by omega : b.1 < a.1 + a.2.1), decide_eq_true (by omega : a.1 < b.1 + b.2.1), Bool.and_true, Bool.true_and]
      have h1 := a4.len
      exact fam_overlap_4 k a.2.2.2 a4.goods h1 b b4.goods b4.len a.2.2.2.length 0 k (by omega) (by omega)
theorem fam_overlap_v (k : Nat) (hk : 70000 ≤ k) (a b : Ch) (ha : Small a) (hb : Small b) : v_u15 k a b = ovlS a b := by
  unfold v_u15; rw [fam_overlap_s k hk a b ha hb]; rfl

/-! ### lengths -/
theorem iso_Length_s (k : Nat) (hk : 2100 ≤ k) (m : List Rn) (h : Chk m) : f_u35 k m = some (lenS m, 0) := by
  have h1 := h.len
  unfold f_u35
  rw [iso_Check_s k (by omega), iso_Check_v k (by omega), Option.isSome_some, if_pos rfl, chk_zero.2 h]
  show (if _ then _ else _) = _
  rw [iso_length_s k m h.goods (by omega) (by omega), iso_length_v k m h.goods (by omega) (by omega)]
  rfl
theorem iso_Length_v (k : Nat) (hk : 2100 ≤ k) (m : List Rn) (h : Chk m) : v_u35 k m = (lenS m, 0) := by
  unfold v_u35; rw [iso_Length_s k hk m h]; rfl

/-! ### numbers of rolls -/
/-- the place of a number among rolls -/
def At (p : List Ro) (id : Int) (i : Option Int) : Prop := match look p id with
  | none => i = none
  | some r => ∃ q : Nat, i = some (q : Int) ∧ q < p.length ∧ ∀ d, p.getD q d = r
theorem At.none {p : List Ro} {id : Int} {i : Option Int} (h : At p id i) (e : look p id = .none) : i = .none := by
  unfold At at h; rw [e] at h; exact h
theorem At.some {p : List Ro} {id : Int} {i : Option Int} {r : Ro} (h : At p id i) (e : look p id = .some r) : ∃ q : Nat, i = .some (q : Int) ∧ q < p.length ∧ ∀ d, p.getD q d = r := by
  unfold At at h; rw [e] at h; exact h

theorem mget_mset (id v : Int) (x : Int) : ∀ M : List (Int × Int), mget I x (mset I id v M) = if x = id then some v else mget I x M
  | [] => by
    show (bif (x == id) then some v else none) = _
    by_cases h : x = id
    · rw [show (x == id) = true by simp [h], if_pos h]; rfl
    · rw [show (x == id) = false by simp [h], if_neg h]; rfl
  | p :: t => by
    unfold mset
    by_cases h : id = p.1
    · rw [show eqK I id p.1 = true from by show (id == p.1) = true; simp [h], cond_true]
      show (bif (x == id) then some v else mget I x t) = _
      by_cases h2 : x = id
      · simp [h2]
      · rw [if_neg h2, show (x == id) = false by simp [h2], cond_false, mget, show eqK I x p.1 = false from by show (x == p.1) = false; rw [← h]; simp [h2], cond_false]
    · rw [show eqK I id p.1 = false from by show (id == p.1) = false; simp [h], cond_false, mget, mget_mset id v x t]
      show (bif (x == p.1) then some p.2 else _) = if _ then _ else (bif (x == p.1) then some p.2 else _)
      by_cases h2 : x = id
      · rw [if_pos h2, if_pos h2, show (x == p.1) = false by rw [h2]; simp [h], cond_false]
      · rw [if_neg h2, if_neg h2]
/-- a register's map of numbers -/
def RegOk (M : List (Int × Int)) (p : List Ro) : Prop := ∀ id, At p id (mget I id M)
theorem regOk_nil : RegOk [] [] := fun id => by unfold At look; rfl
theorem regOk_old {M : List (Int × Int)} {p : List Ro} (h : RegOk M p) (r : Ro) (hr : (look p r.1).isSome = true) : RegOk M (p ++ [r]) := fun id => by
  have h1 := h id
  unfold At at *
  rw [look_append]
  cases e : look p id with
  | some q =>
    rw [e] at h1
    obtain ⟨i, h2, h3, h4⟩ := h1
    exact ⟨i, h2, by rw [List.length_append]; omega, fun d => by rw [getD_app _ _ _ _ h3]; exact h4 d⟩
  | none =>
    rw [e] at h1
    have : r.1 ≠ id := fun e2 => by rw [e2, e] at hr; cases hr
    rw [Option.none_or, show look [r] id = none by unfold look; simp [this]]
    exact h1
theorem regOk_new {M : List (Int × Int)} {p : List Ro} (h : RegOk M p) (r : Ro) (hr : look p r.1 = none) : RegOk (mset I r.1 (p.length : Int) M) (p ++ [r]) := fun id => by
  have h1 := h id
  rw [mget_mset]
  unfold At at *
  rw [look_append]
  by_cases hi : id = r.1
  · rw [if_pos hi, hi, hr, Option.none_or, show look [r] r.1 = some r by unfold look; simp]
    exact ⟨p.length, rfl, by simp, fun d => by simp⟩
  · rw [if_neg hi]
    cases e : look p id with
    | some q =>
      rw [e] at h1
      obtain ⟨i, h2, h3, h4⟩ := h1
      exact ⟨i, h2, by rw [List.length_append]; omega, fun d => by rw [getD_app _ _ _ _ h3]; exact h4 d⟩
    | none =>
      rw [e] at h1
      rw [Option.none_or, show look [r] id = none by unfold look; simp [Ne.symm hi]]
      exact h1

end Go.AM
namespace Go.AM
open Go Go.Proofs Go.IntKind
set_option linter.unusedVariables false
noncomputable section
abbrev R_u23 : Type := Bool
def res_u23 (r : R_u23) : AV := .r (.v (.bool r))
def bo_u23 (g_0 : Int) (g_1 : Int) (g_2 : List (T2).T) (g_3 : List ((I).T × (I).T)) (id_ : Int) (r : R_u23) : List (Nat × Blk) := [(0, .var 71 [.r (.v (.int .i64 g_0)), .r (.v (.int .i64 g_1)), .r (.ro T2 g_2), .own 1 0]), (0, .map false I I g_3)]
def args_u23 (g_0 : Int) (g_1 : Int) (g_2 : List (T2).T) (g_3 : List ((I).T × (I).T)) (id_ : Int) : List AV := [.ptr 0 0 0, .r (.v (.int .i64 id_))]
def bin_u23 (g_0 : Int) (g_1 : Int) (g_2 : List (T2).T) (g_3 : List ((I).T × (I).T)) (id_ : Int) : List Blk := [.var 71 [.r (.v (.int .i64 g_0)), .r (.v (.int .i64 g_1)), .r (.ro T2 g_2), .own 1 0], .map false I I g_3]
def f_u23 (k : Nat) (g_0 : Int) (g_1 : Int) (g_2 : List (T2).T) (g_3 : List ((I).T × (I).T)) (id_ : Int) : Option R_u23 :=
 some ((mget I id_ g_3).isSome)
def v_u23 (k : Nat) (g_0 : Int) (g_1 : Int) (g_2 : List (T2).T) (g_3 : List ((I).T × (I).T)) (id_ : Int) : R_u23 := (f_u23 k g_0 g_1 g_2 g_3 id_).getD false
def K_u23 (k : Nat) : Calld := ⟨fun g xs => match g with
 | _ => none, fun g xs bs => match g with
 | _ => none⟩
theorem of_u23 (k : Nat) (g_0 : Int) (g_1 : Int) (g_2 : List (T2).T) (g_3 : List ((I).T × (I).T)) (id_ : Int) (r : R_u23) (h : f_u23 k g_0 g_1 g_2 g_3 id_ = some r) : CC Try.prog 33 (args_u23 g_0 g_1 g_2 g_3 id_) (bin_u23 g_0 g_1 g_2 g_3 id_) (res_u23 r) (bo_u23 g_0 g_1 g_2 g_3 id_ r) := by
 refine CC.of (fn := Try.f33) (by kernel_rfl) (by kernel_rfl) (by kernel_rfl) (by kernel_rfl) ?_
 unfold f_u23 at h
 refine Ev.tree hm (R := Rt) (K := (K_u23 k)) (l := []) (C := []) (E := [.autoB [4] true []]) (n := 1000) (T := .leaf (res_u23 ((mget I id_ g_3).isSome)) (bo_u23 g_0 g_1 g_2 g_3 id_ ((mget I id_ g_3).isSome))) (by kernel_rfl) ?_
 cases h; exact ⟨rfl, rfl⟩
theorem cc_u23 (k : Nat) (g_0 : Int) (g_1 : Int) (g_2 : List (T2).T) (g_3 : List ((I).T × (I).T)) (id_ : Int) (h : (f_u23 k g_0 g_1 g_2 g_3 id_).isSome = true) : CC Try.prog 33 (args_u23 g_0 g_1 g_2 g_3 id_) (bin_u23 g_0 g_1 g_2 g_3 id_) (res_u23 (v_u23 k g_0 g_1 g_2 g_3 id_)) (bo_u23 g_0 g_1 g_2 g_3 id_ (v_u23 k g_0 g_1 g_2 g_3 id_)) := by
 cases e : f_u23 k g_0 g_1 g_2 g_3 id_ with
 | none => rw [e] at h; cases h
 | some r => rw [show v_u23 k g_0 g_1 g_2 g_3 id_ = r by simp [v_u23, e]]; exact of_u23 k g_0 g_1 g_2 g_3 id_ r e

end
end Go.AM
namespace Go.AM
open Go Go.Proofs Go.IntKind
set_option linter.unusedVariables false
noncomputable section
abbrev R_u26 : Type := Int × Int
def res_u26 (r : R_u26) : AV := .tup [.r (.v (.int .i64 r.1)), .r (.v (.int .i64 r.2))]
def bo_u26 (g_0 : Int) (g_1 : Int) (g_2 : List (T2).T) (g_3 : List ((I).T × (I).T)) (id_ : Int) (r : R_u26) : List (Nat × Blk) := [(0, .var 71 [.r (.v (.int .i64 g_0)), .r (.v (.int .i64 g_1)), .r (.ro T2 g_2), .own 1 0]), (0, .map false I I g_3)]
def args_u26 (g_0 : Int) (g_1 : Int) (g_2 : List (T2).T) (g_3 : List ((I).T × (I).T)) (id_ : Int) : List AV := [.ptr 0 0 0, .r (.v (.int .i64 id_))]
def bin_u26 (g_0 : Int) (g_1 : Int) (g_2 : List (T2).T) (g_3 : List ((I).T × (I).T)) (id_ : Int) : List Blk := [.var 71 [.r (.v (.int .i64 g_0)), .r (.v (.int .i64 g_1)), .r (.ro T2 g_2), .own 1 0], .map false I I g_3]
def f_u26 (k : Nat) (g_0 : Int) (g_1 : Int) (g_2 : List (T2).T) (g_3 : List ((I).T × (I).T)) (id_ : Int) : Option R_u26 :=
 bif (id_ == (0 : Int)) then
 some ((g_0, g_1))
 else
 if ((0 : Int) ≤ (mget I id_ g_3).getD (0 : Int)) ∧ ((mget I id_ g_3).getD (0 : Int) < (↑g_2.length : Int)) then
 if ((f_u35 k (g_2.getD (Int.toNat ((mget I id_ g_3).getD 0)) T2.dflt).2.2.2.2.2).isSome = true) then
 some (((g_2.getD (Int.toNat ((mget I id_ g_3).getD 0)) T2.dflt).2.2.2.1, (v_u35 k (g_2.getD (Int.toNat ((mget I id_ g_3).getD 0)) T2.dflt).2.2.2.2.2).1))
 else none
 else none
def v_u26 (k : Nat) (g_0 : Int) (g_1 : Int) (g_2 : List (T2).T) (g_3 : List ((I).T × (I).T)) (id_ : Int) : R_u26 := (f_u26 k g_0 g_1 g_2 g_3 id_).getD (0, 0)
def K_u26 (k : Nat) : Calld := ⟨fun g xs => match g with
 | 39 => match xs with
  | [_] => some [false]
  | _ => none
 | _ => none, fun g xs bs => match g with
 | 39 => match xs, bs with
  | [.r (.ro tm__ qm_)], [] => (castL tm__ T0 qm_).bind fun m_ => some (.one (res_u35 (v_u35 k m_), bo_u35 m_ (v_u35 k m_)))
  | _, _ => none
 | _ => none⟩
theorem of_u26 (k : Nat) (g_0 : Int) (g_1 : Int) (g_2 : List (T2).T) (g_3 : List ((I).T × (I).T)) (id_ : Int) (r : R_u26) (h : f_u26 k g_0 g_1 g_2 g_3 id_ = some r) : CC Try.prog 28 (args_u26 g_0 g_1 g_2 g_3 id_) (bin_u26 g_0 g_1 g_2 g_3 id_) (res_u26 r) (bo_u26 g_0 g_1 g_2 g_3 id_ r) := by
 refine CC.of (fn := Try.f28) (by kernel_rfl) (by kernel_rfl) (by kernel_rfl) (by kernel_rfl) ?_
 unfold f_u26 at h
 refine Ev.tree hm (R := Rt) (K := (K_u26 k)) (l := []) (C := []) (E := [.autoB [4, 5] true []]) (n := 1000) (T := .test ((id_ == (0 : Int))) (.leaf (res_u26 ((g_0, g_1))) (bo_u26 g_0 g_1 g_2 g_3 id_ ((g_0, g_1)))) (.need [(0 : Int) ≤ (mget I id_ g_3).getD (0 : Int), (mget I id_ g_3).getD (0 : Int) < (↑g_2.length : Int)] (.need [CC Try.prog 39 (args_u35 (g_2.getD (Int.toNat ((mget I id_ g_3).getD 0)) T2.dflt).2.2.2.2.2) (bin_u35 (g_2.getD (Int.toNat ((mget I id_ g_3).getD 0)) T2.dflt).2.2.2.2.2) (res_u35 (v_u35 k (g_2.getD (Int.toNat ((mget I id_ g_3).getD 0)) T2.dflt).2.2.2.2.2)) (bo_u35 (g_2.getD (Int.toNat ((mget I id_ g_3).getD 0)) T2.dflt).2.2.2.2.2 (v_u35 k (g_2.getD (Int.toNat ((mget I id_ g_3).getD 0)) T2.dflt).2.2.2.2.2))] (.leaf (res_u26 (((g_2.getD (Int.toNat ((mget I id_ g_3).getD 0)) T2.dflt).2.2.2.1, (v_u35 k (g_2.getD (Int.toNat ((mget I id_ g_3).getD 0)) T2.dflt).2.2.2.2.2).1))) (bo_u26 g_0 g_1 g_2 g_3 id_ (((g_2.getD (Int.toNat ((mget I id_ g_3).getD 0)) T2.dflt).2.2.2.1, (v_u35 k (g_2.getD (Int.toNat ((mget I id_ g_3).getD 0)) T2.dflt).2.2.2.2.2).1))))))) (by kernel_rfl) ?_
 refine ⟨fun c => ?_, fun c => ?_⟩
 ·rw [cond_t (show ((id_ == (0 : Int))) = true from c)] at h
  cases h; exact ⟨rfl, rfl⟩
 ·rw [cond_f (show ((id_ == (0 : Int))) = false from c)] at h
  by_cases q : ((0 : Int) ≤ (mget I id_ g_3).getD (0 : Int)) ∧ ((mget I id_ g_3).getD (0 : Int) < (↑g_2.length : Int))
  ·rw [if_pos q] at h
   refine ⟨(conjC q.1 (conjC q.2 conj0)), ?_⟩
   by_cases q : ((f_u35 k (g_2.getD (Int.toNat ((mget I id_ g_3).getD 0)) T2.dflt).2.2.2.2.2).isSome = true)
   ·rw [if_pos q] at h
    refine ⟨(conjC (cc_u35 k (g_2.getD (Int.toNat ((mget I id_ g_3).getD 0)) T2.dflt).2.2.2.2.2 q) conj0), ?_⟩
    cases h; exact ⟨rfl, rfl⟩
   ·rw [if_neg q] at h; cases h
  ·rw [if_neg q] at h; cases h
theorem cc_u26 (k : Nat) (g_0 : Int) (g_1 : Int) (g_2 : List (T2).T) (g_3 : List ((I).T × (I).T)) (id_ : Int) (h : (f_u26 k g_0 g_1 g_2 g_3 id_).isSome = true) : CC Try.prog 28 (args_u26 g_0 g_1 g_2 g_3 id_) (bin_u26 g_0 g_1 g_2 g_3 id_) (res_u26 (v_u26 k g_0 g_1 g_2 g_3 id_)) (bo_u26 g_0 g_1 g_2 g_3 id_ (v_u26 k g_0 g_1 g_2 g_3 id_)) := by
 cases e : f_u26 k g_0 g_1 g_2 g_3 id_ with
 | none => rw [e] at h; cases h
 | some r => rw [show v_u26 k g_0 g_1 g_2 g_3 id_ = r by simp [v_u26, e]]; exact of_u26 k g_0 g_1 g_2 g_3 id_ r e

end
end Go.AM
namespace Go.AM
open Go Go.Proofs Go.IntKind
set_option linter.unusedVariables false
noncomputable section
abbrev R_u22 : Type := Int
def res_u22 (r : R_u22) : AV := .r (.v (.int .i64 r))
def bo_u22 (g_0 : Int) (g_1 : Int) (g_2 : List (T2).T) (g_3 : List ((I).T × (I).T)) (r_ : T2.T) (r : R_u22) : List (Nat × Blk) := [(0, .var 71 [.r (.v (.int .i64 g_0)), .r (.v (.int .i64 g_1)), .r (.ro T2 g_2), .own 1 0]), (0, .map false I I g_3)]
def args_u22 (g_0 : Int) (g_1 : Int) (g_2 : List (T2).T) (g_3 : List ((I).T × (I).T)) (r_ : T2.T) : List AV := [.ptr 0 0 0, .agg (rvs (enc T2 r_))]
def bin_u22 (g_0 : Int) (g_1 : Int) (g_2 : List (T2).T) (g_3 : List ((I).T × (I).T)) (r_ : T2.T) : List Blk := [.var 71 [.r (.v (.int .i64 g_0)), .r (.v (.int .i64 g_1)), .r (.ro T2 g_2), .own 1 0], .map false I I g_3]
def st_u22_17 (g_0 : Int) (g_1 : Int) (g_2 : List (T2).T) (g_3 : List ((I).T × (I).T)) (r_ : T2.T) (y0 : Int) (y1 : List (T0).T) (y2 : Int) (y3 : Int) : St := ⟨mkS 93 [(6, .r (.v (.int .i64 y0))), (78, .r (.ro T0 y1)), (79, .r (.v (.int .i64 y2))), (80, .r (.v (.int .i64 y3)))], [(0, 0, .var 71 [.r (.v (.int .i64 g_0)), .r (.v (.int .i64 g_1)), .r (.ro T2 g_2), .own 1 0]), (1, 0, .map false I I g_3)]⟩
def f_u22_17 (k : Nat) (g_0 : Int) (g_1 : Int) (g_2 : List (T2).T) (g_3 : List ((I).T × (I).T)) (r_ : T2.T) : Nat → Int → List (T0).T → Int → Int → Option R_u22
 | 0, _, _, _, _ => none
 | j + 1, y0, y1, y2, y3 =>
 bif (decide (y3 < y2)) then
 if (0 ≤ y3) ∧ (y3 < (↑y1.length : Int)) then
 if ((f_u11 k (y1.getD y3.toNat T0.dflt)).isSome = true) then
 bif (decide ((v_u11 k (y1.getD y3.toNat T0.dflt)).2 ≥ y0)) then
 some 21
 else
 f_u22_17 k g_0 g_1 g_2 g_3 r_ j y0 y1 y2 ((i64.wrap (y3 + 1)))
 else none
 else none
 else
 some 0
def f_u22 (k : Nat) (g_0 : Int) (g_1 : Int) (g_2 : List (T2).T) (g_3 : List ((I).T × (I).T)) (r_ : T2.T) : Option R_u22 :=
 bif (decide (r_.1 < (1 : Int)) || decide (r_.1 > (1000000 : Int))) then
 some 1
 else
 bif (r_.2.1 != (0 : Int)) then
 if ((r_.2.1 != (0 : Int)) = true) ∧ ((f_u23 k g_0 g_1 g_2 g_3 r_.2.1).isSome = true) then
 bif (true && (!v_u23 k g_0 g_1 g_2 g_3 r_.2.1)) then
 some 7
 else
 if ((f_u26 k g_0 g_1 g_2 g_3 r_.2.1).isSome = true) then
 bif (decide (r_.2.2.1 < (0 : Int)) || decide (r_.2.2.2.1 < (1 : Int)) || decide (r_.2.2.1 > (v_u26 k g_0 g_1 g_2 g_3 r_.2.1).1) || decide (r_.2.2.2.1 > i64.wrap ((v_u26 k g_0 g_1 g_2 g_3 r_.2.1).1 - r_.2.2.1))) then
 some 20
 else
 if ((f_u31 k r_.2.2.2.2.2).isSome = true) then
 bif (v_u31 k r_.2.2.2.2.2 != (0 : Int)) then
 some (v_u31 k r_.2.2.2.2.2)
 else
 bif ((↑ (List.length r_.2.2.2.2.2) : Int) == (0 : Int)) then
 some 10
 else
 if ((f_u36 k r_.2.2.2.2.2).isSome = true) then
 bif (!v_u36 k r_.2.2.2.2.2) then
 some 12
 else
 f_u22_17 k g_0 g_1 g_2 g_3 r_ k ((v_u26 k g_0 g_1 g_2 g_3 r_.2.1).2) r_.2.2.2.2.2 ((↑ (List.length r_.2.2.2.2.2) : Int)) 0
 else none
 else none
 else none
 else none
 else
 if ((r_.2.1 != (0 : Int)) = false) then
 if ((f_u26 k g_0 g_1 g_2 g_3 r_.2.1).isSome = true) then
 bif (decide (r_.2.2.1 < (0 : Int)) || decide (r_.2.2.2.1 < (1 : Int)) || decide (r_.2.2.1 > (v_u26 k g_0 g_1 g_2 g_3 r_.2.1).1) || decide (r_.2.2.2.1 > i64.wrap ((v_u26 k g_0 g_1 g_2 g_3 r_.2.1).1 - r_.2.2.1))) then
 some 20
 else
 if ((f_u31 k r_.2.2.2.2.2).isSome = true) then
 bif (v_u31 k r_.2.2.2.2.2 != (0 : Int)) then
 some (v_u31 k r_.2.2.2.2.2)
 else
 bif ((↑ (List.length r_.2.2.2.2.2) : Int) == (0 : Int)) then
 some 10
 else
 if ((f_u36 k r_.2.2.2.2.2).isSome = true) then
 bif (!v_u36 k r_.2.2.2.2.2) then
 some 12
 else
 f_u22_17 k g_0 g_1 g_2 g_3 r_ k ((v_u26 k g_0 g_1 g_2 g_3 r_.2.1).2) r_.2.2.2.2.2 ((↑ (List.length r_.2.2.2.2.2) : Int)) 0
 else none
 else none
 else none
 else none
def v_u22 (k : Nat) (g_0 : Int) (g_1 : Int) (g_2 : List (T2).T) (g_3 : List ((I).T × (I).T)) (r_ : T2.T) : R_u22 := (f_u22 k g_0 g_1 g_2 g_3 r_).getD 0
def K_u22 (k : Nat) : Calld := ⟨fun g xs => match g with
 | 24 => match xs with
  | [_] => some [false]
  | _ => none
 | 28 => match xs with
  | [.ptr _ _ _, _] => some [true, false]
  | _ => none
 | 33 => match xs with
  | [.ptr _ _ _, _] => some [true, false]
  | _ => none
 | 41 => match xs with
  | [_] => some [false]
  | _ => none
 | 42 => match xs with
  | [_] => some [false]
  | _ => none
 | _ => none, fun g xs bs => match g with
 | 24 => match xs, bs with
  | [.r (.ro tm__ qm_)], [] => (castL tm__ T0 qm_).bind fun m_ => some (.one (res_u31 (v_u31 k m_), bo_u31 m_ (v_u31 k m_)))
  | _, _ => none
 | 28 => match xs, bs with
  | [.ptr 0 0 0, .r (.v (.int .i64 id_))], [.var 71 [.r (.v (.int .i64 g_0)), .r (.v (.int .i64 g_1)), .r (.ro tg_2_ qg_2), .own 1 0], .map false kg_3_ tg_3_ qg_3] => (castL tg_2_ T2 qg_2).bind fun g_2 => (castM kg_3_ tg_3_ I I qg_3).bind fun g_3 => some (.one (res_u26 (v_u26 k g_0 g_1 g_2 g_3 id_), bo_u26 g_0 g_1 g_2 g_3 id_ (v_u26 k g_0 g_1 g_2 g_3 id_)))
  | _, _ => none
 | 33 => match xs, bs with
  | [.ptr 0 0 0, .r (.v (.int .i64 id_))], [.var 71 [.r (.v (.int .i64 g_0)), .r (.v (.int .i64 g_1)), .r (.ro tg_2_ qg_2), .own 1 0], .map false kg_3_ tg_3_ qg_3] => (castL tg_2_ T2 qg_2).bind fun g_2 => (castM kg_3_ tg_3_ I I qg_3).bind fun g_3 => some (.one (res_u23 (v_u23 k g_0 g_1 g_2 g_3 id_), bo_u23 g_0 g_1 g_2 g_3 id_ (v_u23 k g_0 g_1 g_2 g_3 id_)))
  | _, _ => none
 | 41 => match xs, bs with
  | [.agg qx_], [] => (decS [] T0 qx_).bind fun x_ => some (.one (res_u11 (v_u11 k x_), bo_u11 x_ (v_u11 k x_)))
  | _, _ => none
 | 42 => match xs, bs with
  | [.r (.ro tm__ qm_)], [] => (castL tm__ T0 qm_).bind fun m_ => some (.one (res_u36 (v_u36 k m_), bo_u36 m_ (v_u36 k m_)))
  | _, _ => none
 | _ => none⟩
theorem ev_u22 (k : Nat) (g_0 : Int) (g_1 : Int) (g_2 : List (T2).T) (g_3 : List ((I).T × (I).T)) (r_ : T2.T) : ∀ j, (∀ (y0 : Int) (y1 : List (T0).T) (y2 : Int) (y3 : Int) (r : R_u22), f_u22_17 k g_0 g_1 g_2 g_3 r_ j y0 y1 y2 y3 = some r → Ev Try.prog Try.f32 2 (placeAt Try.f32 17) (st_u22_17 g_0 g_1 g_2 g_3 r_ y0 y1 y2 y3) (res_u22 r) (bo_u22 g_0 g_1 g_2 g_3 r_ r))
 | 0 => by
  intros; rename_i h; simp [f_u22_17] at h
 | j + 1 => by
  have ih := ev_u22 k g_0 g_1 g_2 g_3 r_ j
  ·intro y0 y1 y2 y3 r h
   rw [f_u22_17] at h
   refine Ev.tree hm (R := Rt) (K := (K_u22 k)) (l := []) (C := [(17, [.autoB [6, 78, 79, 80] false []])]) (E := [.autoB [4] true []]) (n := 1000) (T := .test ((decide (y3 < y2))) (.need [0 ≤ y3, y3 < (↑y1.length : Int)] (.need [CC Try.prog 41 (args_u11 (y1.getD y3.toNat T0.dflt)) (bin_u11 (y1.getD y3.toNat T0.dflt)) (res_u11 (v_u11 k (y1.getD y3.toNat T0.dflt))) (bo_u11 (y1.getD y3.toNat T0.dflt) (v_u11 k (y1.getD y3.toNat T0.dflt)))] (.test ((decide ((v_u11 k (y1.getD y3.toNat T0.dflt)).2 ≥ y0))) (.leaf (res_u22 21) (bo_u22 g_0 g_1 g_2 g_3 r_ 21)) (.cut 17 (placeAt Try.f32 17) (st_u22_17 g_0 g_1 g_2 g_3 r_ y0 y1 y2 ((i64.wrap (y3 + 1)))))))) (.leaf (res_u22 0) (bo_u22 g_0 g_1 g_2 g_3 r_ 0))) (by kernel_rfl) ?_
   refine ⟨fun c => ?_, fun c => ?_⟩
   ·rw [cond_t (show ((decide (y3 < y2))) = true from c)] at h
    by_cases q : (0 ≤ y3) ∧ (y3 < (↑y1.length : Int))
    ·rw [if_pos q] at h
     refine ⟨(conjC q.1 (conjC q.2 conj0)), ?_⟩
     by_cases q : ((f_u11 k (y1.getD y3.toNat T0.dflt)).isSome = true)
     ·rw [if_pos q] at h
      refine ⟨(conjC (cc_u11 k (y1.getD y3.toNat T0.dflt) q) conj0), ?_⟩
      refine ⟨fun c => ?_, fun c => ?_⟩
      ·rw [cond_t (show ((decide ((v_u11 k (y1.getD y3.toNat T0.dflt)).2 ≥ y0))) = true from c)] at h
       cases h; exact ⟨rfl, rfl⟩
      ·rw [cond_f (show ((decide ((v_u11 k (y1.getD y3.toNat T0.dflt)).2 ≥ y0))) = false from c)] at h
       exact ih y0 y1 y2 ((i64.wrap (y3 + 1))) _ h
     ·rw [if_neg q] at h; cases h
    ·rw [if_neg q] at h; cases h
   ·rw [cond_f (show ((decide (y3 < y2))) = false from c)] at h
    cases h; exact ⟨rfl, rfl⟩
theorem of_u22 (k : Nat) (g_0 : Int) (g_1 : Int) (g_2 : List (T2).T) (g_3 : List ((I).T × (I).T)) (r_ : T2.T) (r : R_u22) (h : f_u22 k g_0 g_1 g_2 g_3 r_ = some r) : CC Try.prog 32 (args_u22 g_0 g_1 g_2 g_3 r_) (bin_u22 g_0 g_1 g_2 g_3 r_) (res_u22 r) (bo_u22 g_0 g_1 g_2 g_3 r_ r) := by
 refine CC.of (fn := Try.f32) (by kernel_rfl) (by kernel_rfl) (by kernel_rfl) (by kernel_rfl) ?_
 unfold f_u22 at h
 refine Ev.tree hm (R := Rt) (K := (K_u22 k)) (l := []) (C := [(17, [.autoB [6, 78, 79, 80] false []])]) (E := [.autoB [4] true []]) (n := 1000) (T := .test ((decide (r_.1 < (1 : Int)) || decide (r_.1 > (1000000 : Int)))) (.leaf (res_u22 1) (bo_u22 g_0 g_1 g_2 g_3 r_ 1)) (.test ((r_.2.1 != (0 : Int))) (.need [(r_.2.1 != (0 : Int)) = true, CC Try.prog 33 (args_u23 g_0 g_1 g_2 g_3 r_.2.1) (bin_u23 g_0 g_1 g_2 g_3 r_.2.1) (res_u23 (v_u23 k g_0 g_1 g_2 g_3 r_.2.1)) (bo_u23 g_0 g_1 g_2 g_3 r_.2.1 (v_u23 k g_0 g_1 g_2 g_3 r_.2.1))] (.test ((true && (!v_u23 k g_0 g_1 g_2 g_3 r_.2.1))) (.leaf (res_u22 7) (bo_u22 g_0 g_1 g_2 g_3 r_ 7)) (.need [CC Try.prog 28 (args_u26 g_0 g_1 g_2 g_3 r_.2.1) (bin_u26 g_0 g_1 g_2 g_3 r_.2.1) (res_u26 (v_u26 k g_0 g_1 g_2 g_3 r_.2.1)) (bo_u26 g_0 g_1 g_2 g_3 r_.2.1 (v_u26 k g_0 g_1 g_2 g_3 r_.2.1))] (.test ((decide (r_.2.2.1 < (0 : Int)) || decide (r_.2.2.2.1 < (1 : Int)) || decide (r_.2.2.1 > (v_u26 k g_0 g_1 g_2 g_3 r_.2.1).1) || decide (r_.2.2.2.1 > i64.wrap ((v_u26 k g_0 g_1 g_2 g_3 r_.2.1).1 - r_.2.2.1)))) (.leaf (res_u22 20) (bo_u22 g_0 g_1 g_2 g_3 r_ 20)) (.need [CC Try.prog 24 (args_u31 r_.2.2.2.2.2) (bin_u31 r_.2.2.2.2.2) (res_u31 (v_u31 k r_.2.2.2.2.2)) (bo_u31 r_.2.2.2.2.2 (v_u31 k r_.2.2.2.2.2))] (.test ((v_u31 k r_.2.2.2.2.2 != (0 : Int))) (.leaf (res_u22 (v_u31 k r_.2.2.2.2.2)) (bo_u22 g_0 g_1 g_2 g_3 r_ (v_u31 k r_.2.2.2.2.2))) (.test (((↑ (List.length r_.2.2.2.2.2) : Int) == (0 : Int))) (.leaf (res_u22 10) (bo_u22 g_0 g_1 g_2 g_3 r_ 10)) (.need [CC Try.prog 42 (args_u36 r_.2.2.2.2.2) (bin_u36 r_.2.2.2.2.2) (res_u36 (v_u36 k r_.2.2.2.2.2)) (bo_u36 r_.2.2.2.2.2 (v_u36 k r_.2.2.2.2.2))] (.test ((!v_u36 k r_.2.2.2.2.2)) (.leaf (res_u22 12) (bo_u22 g_0 g_1 g_2 g_3 r_ 12)) (.cut 17 (placeAt Try.f32 17) (st_u22_17 g_0 g_1 g_2 g_3 r_ ((v_u26 k g_0 g_1 g_2 g_3 r_.2.1).2) r_.2.2.2.2.2 ((↑ (List.length r_.2.2.2.2.2) : Int)) 0))))))))))) (.need [(r_.2.1 != (0 : Int)) = false] (.test (false) (.leaf (.r (.v (.int .i64 7))) [(0, .var 71 [.r (.v (.int .i64 g_0)), .r (.v (.int .i64 g_1)), .r (.ro T2 g_2), .own 1 0]), (0, .map false I I g_3)]) (.need [CC Try.prog 28 (args_u26 g_0 g_1 g_2 g_3 r_.2.1) (bin_u26 g_0 g_1 g_2 g_3 r_.2.1) (res_u26 (v_u26 k g_0 g_1 g_2 g_3 r_.2.1)) (bo_u26 g_0 g_1 g_2 g_3 r_.2.1 (v_u26 k g_0 g_1 g_2 g_3 r_.2.1))] (.test ((decide (r_.2.2.1 < (0 : Int)) || decide (r_.2.2.2.1 < (1 : Int)) || decide (r_.2.2.1 > (v_u26 k g_0 g_1 g_2 g_3 r_.2.1).1) || decide (r_.2.2.2.1 > i64.wrap ((v_u26 k g_0 g_1 g_2 g_3 r_.2.1).1 - r_.2.2.1)))) (.leaf (res_u22 20) (bo_u22 g_0 g_1 g_2 g_3 r_ 20)) (.need [CC Try.prog 24 (args_u31 r_.2.2.2.2.2) (bin_u31 r_.2.2.2.2.2) (res_u31 (v_u31 k r_.2.2.2.2.2)) (bo_u31 r_.2.2.2.2.2 (v_u31 k r_.2.2.2.2.2))] (.test ((v_u31 k r_.2.2.2.2.2 != (0 : Int))) (.leaf (res_u22 (v_u31 k r_.2.2.2.2.2)) (bo_u22 g_0 g_1 g_2 g_3 r_ (v_u31 k r_.2.2.2.2.2))) (.test (((↑ (List.length r_.2.2.2.2.2) : Int) == (0 : Int))) (.leaf (res_u22 10) (bo_u22 g_0 g_1 g_2 g_3 r_ 10)) (.need [CC Try.prog 42 (args_u36 r_.2.2.2.2.2) (bin_u36 r_.2.2.2.2.2) (res_u36 (v_u36 k r_.2.2.2.2.2)) (bo_u36 r_.2.2.2.2.2 (v_u36 k r_.2.2.2.2.2))] (.test ((!v_u36 k r_.2.2.2.2.2)) (.leaf (res_u22 12) (bo_u22 g_0 g_1 g_2 g_3 r_ 12)) (.cut 17 (placeAt Try.f32 17) (st_u22_17 g_0 g_1 g_2 g_3 r_ ((v_u26 k g_0 g_1 g_2 g_3 r_.2.1).2) r_.2.2.2.2.2 ((↑ (List.length r_.2.2.2.2.2) : Int)) 0))))))))))))) (by kernel_rfl) ?_
 refine ⟨fun c => ?_, fun c => ?_⟩
 ·rw [cond_t (show ((decide (r_.1 < (1 : Int)) || decide (r_.1 > (1000000 : Int)))) = true from c)] at h
  cases h; exact ⟨rfl, rfl⟩
 ·rw [cond_f (show ((decide (r_.1 < (1 : Int)) || decide (r_.1 > (1000000 : Int)))) = false from c)] at h
  refine ⟨fun c => ?_, fun c => ?_⟩
  ·rw [cond_t (show ((r_.2.1 != (0 : Int))) = true from c)] at h
   by_cases q : ((r_.2.1 != (0 : Int)) = true) ∧ ((f_u23 k g_0 g_1 g_2 g_3 r_.2.1).isSome = true)
   ·rw [if_pos q] at h
    refine ⟨(conjC q.1 (conjC (cc_u23 k g_0 g_1 g_2 g_3 r_.2.1 q.2) conj0)), ?_⟩
    refine ⟨fun c => ?_, fun c => ?_⟩
    ·rw [cond_t (show ((true && (!v_u23 k g_0 g_1 g_2 g_3 r_.2.1))) = true from c)] at h
     cases h; exact ⟨rfl, rfl⟩
    ·rw [cond_f (show ((true && (!v_u23 k g_0 g_1 g_2 g_3 r_.2.1))) = false from c)] at h
     by_cases q : ((f_u26 k g_0 g_1 g_2 g_3 r_.2.1).isSome = true)
     ·rw [if_pos q] at h
      refine ⟨(conjC (cc_u26 k g_0 g_1 g_2 g_3 r_.2.1 q) conj0), ?_⟩
      refine ⟨fun c => ?_, fun c => ?_⟩
      ·rw [cond_t (show ((decide (r_.2.2.1 < (0 : Int)) || decide (r_.2.2.2.1 < (1 : Int)) || decide (r_.2.2.1 > (v_u26 k g_0 g_1 g_2 g_3 r_.2.1).1) || decide (r_.2.2.2.1 > i64.wrap ((v_u26 k g_0 g_1 g_2 g_3 r_.2.1).1 - r_.2.2.1)))) = true from c)] at h
       cases h; exact ⟨rfl, rfl⟩
      ·rw [cond_f (show ((decide (r_.2.2.1 < (0 : Int)) || decide (r_.2.2.2.1 < (1 : Int)) || decide (r_.2.2.1 > (v_u26 k g_0 g_1 g_2 g_3 r_.2.1).1) || decide (r_.2.2.2.1 > i64.wrap ((v_u26 k g_0 g_1 g_2 g_3 r_.2.1).1 - r_.2.2.1)))) = false from c)] at h
       by_cases q : ((f_u31 k r_.2.2.2.2.2).isSome = true)
       ·rw [if_pos q] at h
        refine ⟨(conjC (cc_u31 k r_.2.2.2.2.2 q) conj0), ?_⟩
        refine ⟨fun c => ?_, fun c => ?_⟩
        ·rw [cond_t (show ((v_u31 k r_.2.2.2.2.2 != (0 : Int))) = true from c)] at h
         cases h; exact ⟨rfl, rfl⟩
        ·rw [cond_f (show ((v_u31 k r_.2.2.2.2.2 != (0 : Int))) = false from c)] at h
         refine ⟨fun c => ?_, fun c => ?_⟩
         ·rw [cond_t (show (((↑ (List.length r_.2.2.2.2.2) : Int) == (0 : Int))) = true from c)] at h
          cases h; exact ⟨rfl, rfl⟩
         ·rw [cond_f (show (((↑ (List.length r_.2.2.2.2.2) : Int) == (0 : Int))) = false from c)] at h
          by_cases q : ((f_u36 k r_.2.2.2.2.2).isSome = true)
          ·rw [if_pos q] at h
           refine ⟨(conjC (cc_u36 k r_.2.2.2.2.2 q) conj0), ?_⟩
           refine ⟨fun c => ?_, fun c => ?_⟩
           ·rw [cond_t (show ((!v_u36 k r_.2.2.2.2.2)) = true from c)] at h
            cases h; exact ⟨rfl, rfl⟩
           ·rw [cond_f (show ((!v_u36 k r_.2.2.2.2.2)) = false from c)] at h
            exact (ev_u22 k g_0 g_1 g_2 g_3 r_ k) ((v_u26 k g_0 g_1 g_2 g_3 r_.2.1).2) r_.2.2.2.2.2 ((↑ (List.length r_.2.2.2.2.2) : Int)) 0 _ h
          ·rw [if_neg q] at h; cases h
       ·rw [if_neg q] at h; cases h
     ·rw [if_neg q] at h; cases h
   ·rw [if_neg q] at h; cases h
  ·rw [cond_f (show ((r_.2.1 != (0 : Int))) = false from c)] at h
   by_cases q : ((r_.2.1 != (0 : Int)) = false)
   ·rw [if_pos q] at h
    refine ⟨(conjC q conj0), ?_⟩
    refine ⟨fun c => ?_, fun c => ?_⟩
    ·cases c
    by_cases q : ((f_u26 k g_0 g_1 g_2 g_3 r_.2.1).isSome = true)
    ·rw [if_pos q] at h
     refine ⟨(conjC (cc_u26 k g_0 g_1 g_2 g_3 r_.2.1 q) conj0), ?_⟩
     refine ⟨fun c => ?_, fun c => ?_⟩
     ·rw [cond_t (show ((decide (r_.2.2.1 < (0 : Int)) || decide (r_.2.2.2.1 < (1 : Int)) || decide (r_.2.2.1 > (v_u26 k g_0 g_1 g_2 g_3 r_.2.1).1) || decide (r_.2.2.2.1 > i64.wrap ((v_u26 k g_0 g_1 g_2 g_3 r_.2.1).1 - r_.2.2.1)))) = true from c)] at h
      cases h; exact ⟨rfl, rfl⟩
     ·rw [cond_f (show ((decide (r_.2.2.1 < (0 : Int)) || decide (r_.2.2.2.1 < (1 : Int)) || decide (r_.2.2.1 > (v_u26 k g_0 g_1 g_2 g_3 r_.2.1).1) || decide (r_.2.2.2.1 > i64.wrap ((v_u26 k g_0 g_1 g_2 g_3 r_.2.1).1 - r_.2.2.1)))) = false from c)] at h
      by_cases q : ((f_u31 k r_.2.2.2.2.2).isSome = true)
      ·rw [if_pos q] at h
       refine ⟨(conjC (cc_u31 k r_.2.2.2.2.2 q) conj0), ?_⟩
       refine ⟨fun c => ?_, fun c => ?_⟩
       ·rw [cond_t (show ((v_u31 k r_.2.2.2.2.2 != (0 : Int))) = true from c)] at h
        cases h; exact ⟨rfl, rfl⟩
       ·rw [cond_f (show ((v_u31 k r_.2.2.2.2.2 != (0 : Int))) = false from c)] at h
        refine ⟨fun c => ?_, fun c => ?_⟩
        ·rw [cond_t (show (((↑ (List.length r_.2.2.2.2.2) : Int) == (0 : Int))) = true from c)] at h
         cases h; exact ⟨rfl, rfl⟩
        ·rw [cond_f (show (((↑ (List.length r_.2.2.2.2.2) : Int) == (0 : Int))) = false from c)] at h
         by_cases q : ((f_u36 k r_.2.2.2.2.2).isSome = true)
         ·rw [if_pos q] at h
          refine ⟨(conjC (cc_u36 k r_.2.2.2.2.2 q) conj0), ?_⟩
          refine ⟨fun c => ?_, fun c => ?_⟩
          ·rw [cond_t (show ((!v_u36 k r_.2.2.2.2.2)) = true from c)] at h
           cases h; exact ⟨rfl, rfl⟩
          ·rw [cond_f (show ((!v_u36 k r_.2.2.2.2.2)) = false from c)] at h
           exact (ev_u22 k g_0 g_1 g_2 g_3 r_ k) ((v_u26 k g_0 g_1 g_2 g_3 r_.2.1).2) r_.2.2.2.2.2 ((↑ (List.length r_.2.2.2.2.2) : Int)) 0 _ h
         ·rw [if_neg q] at h; cases h
      ·rw [if_neg q] at h; cases h
    ·rw [if_neg q] at h; cases h
   ·rw [if_neg q] at h; cases h
theorem cc_u22 (k : Nat) (g_0 : Int) (g_1 : Int) (g_2 : List (T2).T) (g_3 : List ((I).T × (I).T)) (r_ : T2.T) (h : (f_u22 k g_0 g_1 g_2 g_3 r_).isSome = true) : CC Try.prog 32 (args_u22 g_0 g_1 g_2 g_3 r_) (bin_u22 g_0 g_1 g_2 g_3 r_) (res_u22 (v_u22 k g_0 g_1 g_2 g_3 r_)) (bo_u22 g_0 g_1 g_2 g_3 r_ (v_u22 k g_0 g_1 g_2 g_3 r_)) := by
 cases e : f_u22 k g_0 g_1 g_2 g_3 r_ with
 | none => rw [e] at h; cases h
 | some r => rw [show v_u22 k g_0 g_1 g_2 g_3 r_ = r by simp [v_u22, e]]; exact of_u22 k g_0 g_1 g_2 g_3 r_ r e

end
end Go.AM
namespace Go.AM
open Go Go.Proofs Go.IntKind
set_option linter.unusedVariables false
noncomputable section
abbrev RA_u14 : Type := Int
def resA_u14 (r : RA_u14) : AV := .tup [.r (.v (Value.pointer none)), .r (.v (.int .i64 r))]
def boA_u14 (l_ : List (T2).T) (web_ : T5.T) (r : RA_u14) : List (Nat × Blk) := []
abbrev RB_u14 : Type := Int × Int × Int × List (T2).T × (List ((I).T × (I).T))
def resB_u14 (r : RB_u14) : AV := .tup [.ptr 0 0 0, .r (.v (.int .i64 r.1))]
def boB_u14 (l_ : List (T2).T) (web_ : T5.T) (r : RB_u14) : List (Nat × Blk) := [(0, .var 71 [.r (.v (.int .i64 r.2.1)), .r (.v (.int .i64 r.2.2.1)), .r (.ro T2 r.2.2.2.1), .own 1 0]), (0, .map false I I r.2.2.2.2)]
abbrev R_u14 : Type := RA_u14 ⊕ RB_u14
def res_u14 (r : R_u14) : AV := match r with
 | .inl a => resA_u14 a
 | .inr a => resB_u14 a
def bo_u14 (l_ : List (T2).T) (web_ : T5.T) (r : R_u14) : List (Nat × Blk) := match r with
 | .inl a => boA_u14 l_ web_ a
 | .inr a => boB_u14 l_ web_ a
def args_u14 (l_ : List (T2).T) (web_ : T5.T) : List AV := [.r (.ro T2 l_), .agg (rvs (enc T5 web_))]
def bin_u14 (l_ : List (T2).T) (web_ : T5.T) : List Blk := []
def st_u14_8 (y0 : List (T2).T) (y1 : Bool) (y2 : List (T2).T) (y3 : Int) (y4 : Int) (y5 : Int) (y6 : Int) (y7 : List (T2).T) (y8 : List ((I).T × (I).T)) : St := ⟨mkS 97 [(0, .r (.ro T2 y0)), (6, .ptr 1000000 0 0), (7, .r (.v (.bool y1))), (41, .r (.ro T2 y2)), (42, .r (.v (.int .i64 y3))), (43, .r (.v (.int .i64 y4)))], [(1000000, 0, .var 71 [.r (.v (.int .i64 y5)), .r (.v (.int .i64 y6)), .r (.ro T2 y7), .own 1000001 0]), (1000001, 0, .map false I I y8)]⟩
def st_u14_20 (y0 : List (T2).T) (y1 : List (T2).T) (y2 : Int) (y3 : Int) (y4 : Int) (y5 : Int) (y6 : List (T2).T) (y7 : List ((I).T × (I).T)) : St := ⟨mkS 97 [(0, .r (.ro T2 y0)), (6, .ptr 1000000 0 0), (67, .r (.ro T2 y1)), (68, .r (.v (.int .i64 y2))), (69, .r (.v (.int .i64 y3)))], [(1000000, 0, .var 71 [.r (.v (.int .i64 y4)), .r (.v (.int .i64 y5)), .r (.ro T2 y6), .own 1000001 0]), (1000001, 0, .map false I I y7)]⟩
def st_u14_23 (y0 : List (T2).T) (y1 : List (T2).T) (y2 : Int) (y3 : Int) (y4 : List (T2).T) (y5 : Int) (y6 : Int) (y7 : Int) (y8 : Int) (y9 : List (T2).T) (y10 : List ((I).T × (I).T)) (y11 : T2.T) : St := ⟨mkS 97 [(0, .r (.ro T2 y0)), (6, .ptr 1000000 0 0), (12, .ptr 1000002 0 0), (67, .r (.ro T2 y1)), (68, .r (.v (.int .i64 y2))), (69, .r (.v (.int .i64 y3))), (76, .r (.ro T2 y4)), (77, .r (.v (.int .i64 y5))), (78, .r (.v (.int .i64 y6)))], [(1000000, 0, .var 71 [.r (.v (.int .i64 y7)), .r (.v (.int .i64 y8)), .r (.ro T2 y9), .own 1000001 0]), (1000001, 0, .map false I I y10), (1000002, 0, .var 46 (rvs (enc T2 y11)))]⟩
mutual
def f_u14_8 (k : Nat) : Nat → List (T2).T → Bool → List (T2).T → Int → Int → Int → Int → List (T2).T → (List ((I).T × (I).T)) → Option R_u14
 | 0, _, _, _, _, _, _, _, _, _ => none
 | j + 1, y0, y1, y2, y3, y4, y5, y6, y7, y8 =>
 bif (decide (y4 < y3)) then
 if (0 ≤ y4) ∧ (y4 < (↑y2.length : Int)) then
 if ((f_u22 k y5 y6 y7 y8 (y2.getD y4.toNat T2.dflt)).isSome = true) then
 bif (v_u22 k y5 y6 y7 y8 (y2.getD y4.toNat T2.dflt) != (0 : Int)) then
 some ((.inl (v_u22 k y5 y6 y7 y8 (y2.getD y4.toNat T2.dflt))))
 else
 if ((f_u23 k y5 y6 y7 y8 (y2.getD y4.toNat T2.dflt).1).isSome = true) then
 bif (v_u23 k y5 y6 y7 y8 (y2.getD y4.toNat T2.dflt).1) then
 f_u14_8 k j y0 true y2 y3 ((i64.wrap (y4 + 1))) y5 y6 y7 y8
 else
 f_u14_8 k j y0 y1 y2 y3 ((i64.wrap (y4 + 1))) y5 y6 y7 ((mset I (y2.getD y4.toNat T2.dflt).1 y4 y8))
 else none
 else none
 else none
 else
 bif y1 then
 some ((.inl 6))
 else
 f_u14_20 k j y0 y0 ((↑y0.length : Int)) 0 y5 y6 y7 y8
def f_u14_20 (k : Nat) : Nat → List (T2).T → List (T2).T → Int → Int → Int → Int → List (T2).T → (List ((I).T × (I).T)) → Option R_u14
 | 0, _, _, _, _, _, _, _, _ => none
 | j + 1, y0, y1, y2, y3, y4, y5, y6, y7 =>
 bif (decide (y3 < y2)) then
 if (0 ≤ y3) ∧ (y3 < (↑y1.length : Int)) then
 if ((0 : Int) ≤ (0 : Int)) ∧ (0 ≤ y3) ∧ (y3 ≤ (↑y0.length : Int)) then
 f_u14_23 k j y0 y1 y2 y3 ((List.take (y3.toNat - Int.toNat 0) (List.drop (Int.toNat 0) y0))) ((↑ (List.take (y3.toNat - Int.toNat 0) (List.drop (Int.toNat 0) y0)).length : Int)) 0 y4 y5 y6 y7 ((y1.getD y3.toNat T2.dflt))
 else none
 else none
 else
 some ((.inr ((0, y4, y5, y6, y7))))
def f_u14_23 (k : Nat) : Nat → List (T2).T → List (T2).T → Int → Int → List (T2).T → Int → Int → Int → Int → List (T2).T → (List ((I).T × (I).T)) → T2.T → Option R_u14
 | 0, _, _, _, _, _, _, _, _, _, _, _, _ => none
 | j + 1, y0, y1, y2, y3, y4, y5, y6, y7, y8, y9, y10, y11 =>
 bif (decide (y6 < y5)) then
 if (0 ≤ y6) ∧ (y6 < (↑y4.length : Int)) then
 bif (y11.2.1 == (y4.getD y6.toNat T2.dflt).2.1) then
 if ((y11.2.1 == (y4.getD y6.toNat T2.dflt).2.1) = true) ∧ ((f_u15 k y11.2.2 (y4.getD y6.toNat T2.dflt).2.2).isSome = true) then
 bif (true && v_u15 k y11.2.2 (y4.getD y6.toNat T2.dflt).2.2) then
 some ((.inl 12))
 else
 f_u14_23 k j y0 y1 y2 y3 y4 y5 ((i64.wrap (y6 + 1))) y7 y8 y9 y10 y11
 else none
 else
 if ((y11.2.1 == (y4.getD y6.toNat T2.dflt).2.1) = false) then
 f_u14_23 k j y0 y1 y2 y3 y4 y5 ((i64.wrap (y6 + 1))) y7 y8 y9 y10 y11
 else none
 else none
 else
 f_u14_20 k j y0 y1 y2 ((i64.wrap (y3 + 1))) y7 y8 y9 y10
end
def f_u14 (k : Nat) (l_ : List (T2).T) (web_ : T5.T) : Option R_u14 :=
 bif (decide (web_.1 < (1 : Int)) || decide (web_.1 > (12000 : Int)) || decide (web_.2 < (0 : Int)) || decide (web_.2 > (17179869184 : Int))) then
 some ((.inl 1))
 else
 bif (decide ((↑l_.length : Int) > (512 : Int))) then
 some ((.inl 8))
 else
 f_u14_8 k k l_ false l_ ((↑l_.length : Int)) 0 web_.1 web_.2 l_ ([])
def v_u14 (k : Nat) (l_ : List (T2).T) (web_ : T5.T) : R_u14 := (f_u14 k l_ web_).getD (.inl 0)
def vA_u14 (k : Nat) (l_ : List (T2).T) (web_ : T5.T) : RA_u14 := lft 0 (v_u14 k l_ web_)
def vB_u14 (k : Nat) (l_ : List (T2).T) (web_ : T5.T) : RB_u14 := rgt ((0, 0, 0, [], [])) (v_u14 k l_ web_)
def K_u14 (k : Nat) : Calld := ⟨fun g xs => match g with
 | 33 => match xs with
  | [.ptr _ _ _, _] => some [true, false]
  | _ => none
 | 32 => match xs with
  | [.ptr _ _ _, _] => some [true, false]
  | _ => none
 | 34 => match xs with
  | [_, _] => some [false, false]
  | _ => none
 | _ => none, fun g xs bs => match g with
 | 33 => match xs, bs with
  | [.ptr 0 0 0, .r (.v (.int .i64 id_))], [.var 71 [.r (.v (.int .i64 g_0)), .r (.v (.int .i64 g_1)), .r (.ro tg_2_ qg_2), .own 1 0], .map false kg_3_ tg_3_ qg_3] => (castL tg_2_ T2 qg_2).bind fun g_2 => (castM kg_3_ tg_3_ I I qg_3).bind fun g_3 => some (.one (res_u23 (v_u23 k g_0 g_1 g_2 g_3 id_), bo_u23 g_0 g_1 g_2 g_3 id_ (v_u23 k g_0 g_1 g_2 g_3 id_)))
  | _, _ => none
 | 32 => match xs, bs with
  | [.ptr 0 0 0, .agg qr_], [.var 71 [.r (.v (.int .i64 g_0)), .r (.v (.int .i64 g_1)), .r (.ro tg_2_ qg_2), .own 1 0], .map false kg_3_ tg_3_ qg_3] => (decS [] T2 qr_).bind fun r_ => (castL tg_2_ T2 qg_2).bind fun g_2 => (castM kg_3_ tg_3_ I I qg_3).bind fun g_3 => some (.one (res_u22 (v_u22 k g_0 g_1 g_2 g_3 r_), bo_u22 g_0 g_1 g_2 g_3 r_ (v_u22 k g_0 g_1 g_2 g_3 r_)))
  | _, _ => none
 | 34 => match xs, bs with
  | [.agg qa_, .agg qb_], [] => (decS [] T1 qa_).bind fun a_ => (decS [] T1 qb_).bind fun b_ => some (.one (res_u15 (v_u15 k a_ b_), bo_u15 a_ b_ (v_u15 k a_ b_)))
  | _, _ => none
 | _ => none⟩
theorem ev_u14 (k : Nat) (l_ : List (T2).T) (web_ : T5.T) : ∀ j, (∀ (y0 : List (T2).T) (y1 : Bool) (y2 : List (T2).T) (y3 : Int) (y4 : Int) (y5 : Int) (y6 : Int) (y7 : List (T2).T) (y8 : List ((I).T × (I).T)) (r : R_u14), f_u14_8 k j y0 y1 y2 y3 y4 y5 y6 y7 y8 = some r → Ev Try.prog Try.f17 0 (placeAt Try.f17 8) (st_u14_8 y0 y1 y2 y3 y4 y5 y6 y7 y8) (res_u14 r) (bo_u14 l_ web_ r)) ∧ (∀ (y0 : List (T2).T) (y1 : List (T2).T) (y2 : Int) (y3 : Int) (y4 : Int) (y5 : Int) (y6 : List (T2).T) (y7 : List ((I).T × (I).T)) (r : R_u14), f_u14_20 k j y0 y1 y2 y3 y4 y5 y6 y7 = some r → Ev Try.prog Try.f17 0 (placeAt Try.f17 20) (st_u14_20 y0 y1 y2 y3 y4 y5 y6 y7) (res_u14 r) (bo_u14 l_ web_ r)) ∧ (∀ (y0 : List (T2).T) (y1 : List (T2).T) (y2 : Int) (y3 : Int) (y4 : List (T2).T) (y5 : Int) (y6 : Int) (y7 : Int) (y8 : Int) (y9 : List (T2).T) (y10 : List ((I).T × (I).T)) (y11 : T2.T) (r : R_u14), f_u14_23 k j y0 y1 y2 y3 y4 y5 y6 y7 y8 y9 y10 y11 = some r → Ev Try.prog Try.f17 0 (placeAt Try.f17 23) (st_u14_23 y0 y1 y2 y3 y4 y5 y6 y7 y8 y9 y10 y11) (res_u14 r) (bo_u14 l_ web_ r))
 | 0 => by
  refine ⟨?_, ?_, ?_⟩ <;> intros <;> rename_i h <;> simp [f_u14_8, f_u14_20, f_u14_23] at h
 | j + 1 => by
  have ih := ev_u14 k l_ web_ j
  refine ⟨?_, ?_, ?_⟩
  ·intro y0 y1 y2 y3 y4 y5 y6 y7 y8 r h
   rw [f_u14_8] at h
   refine Ev.tree hm (R := Rt) (K := (K_u14 k)) (l := []) (C := [(8, [.autoB [0, 6, 7, 41, 42, 43] false []]), (20, [.autoB [0, 6, 67, 68, 69] false []]), (23, [.autoB [0, 6, 12, 67, 68, 69, 76, 77, 78] false []])]) (E := [.autoB [4, 5] true []]) (n := 1000) (T := .test ((decide (y4 < y3))) (.need [0 ≤ y4, y4 < (↑y2.length : Int)] (.need [CC Try.prog 32 (args_u22 y5 y6 y7 y8 (y2.getD y4.toNat T2.dflt)) (bin_u22 y5 y6 y7 y8 (y2.getD y4.toNat T2.dflt)) (res_u22 (v_u22 k y5 y6 y7 y8 (y2.getD y4.toNat T2.dflt))) (bo_u22 y5 y6 y7 y8 (y2.getD y4.toNat T2.dflt) (v_u22 k y5 y6 y7 y8 (y2.getD y4.toNat T2.dflt)))] (.test ((v_u22 k y5 y6 y7 y8 (y2.getD y4.toNat T2.dflt) != (0 : Int))) (.leaf (resA_u14 (v_u22 k y5 y6 y7 y8 (y2.getD y4.toNat T2.dflt))) (boA_u14 l_ web_ (v_u22 k y5 y6 y7 y8 (y2.getD y4.toNat T2.dflt)))) (.need [CC Try.prog 33 (args_u23 y5 y6 y7 y8 (y2.getD y4.toNat T2.dflt).1) (bin_u23 y5 y6 y7 y8 (y2.getD y4.toNat T2.dflt).1) (res_u23 (v_u23 k y5 y6 y7 y8 (y2.getD y4.toNat T2.dflt).1)) (bo_u23 y5 y6 y7 y8 (y2.getD y4.toNat T2.dflt).1 (v_u23 k y5 y6 y7 y8 (y2.getD y4.toNat T2.dflt).1))] (.test ((v_u23 k y5 y6 y7 y8 (y2.getD y4.toNat T2.dflt).1)) (.cut 8 (placeAt Try.f17 8) (st_u14_8 y0 true y2 y3 ((i64.wrap (y4 + 1))) y5 y6 y7 y8)) (.cut 8 (placeAt Try.f17 8) (st_u14_8 y0 y1 y2 y3 ((i64.wrap (y4 + 1))) y5 y6 y7 ((mset I (y2.getD y4.toNat T2.dflt).1 y4 y8))))))))) (.test (y1) (.leaf (resA_u14 6) (boA_u14 l_ web_ 6)) (.cut 20 (placeAt Try.f17 20) (st_u14_20 y0 y0 ((↑y0.length : Int)) 0 y5 y6 y7 y8)))) (by kernel_rfl) ?_
   refine ⟨fun c => ?_, fun c => ?_⟩
   ·rw [cond_t (show ((decide (y4 < y3))) = true from c)] at h
    by_cases q : (0 ≤ y4) ∧ (y4 < (↑y2.length : Int))
    ·rw [if_pos q] at h
     refine ⟨(conjC q.1 (conjC q.2 conj0)), ?_⟩
     by_cases q : ((f_u22 k y5 y6 y7 y8 (y2.getD y4.toNat T2.dflt)).isSome = true)
     ·rw [if_pos q] at h
      refine ⟨(conjC (cc_u22 k y5 y6 y7 y8 (y2.getD y4.toNat T2.dflt) q) conj0), ?_⟩
      refine ⟨fun c => ?_, fun c => ?_⟩
      ·rw [cond_t (show ((v_u22 k y5 y6 y7 y8 (y2.getD y4.toNat T2.dflt) != (0 : Int))) = true from c)] at h
       cases h; exact ⟨rfl, rfl⟩
      ·rw [cond_f (show ((v_u22 k y5 y6 y7 y8 (y2.getD y4.toNat T2.dflt) != (0 : Int))) = false from c)] at h
       by_cases q : ((f_u23 k y5 y6 y7 y8 (y2.getD y4.toNat T2.dflt).1).isSome = true)
       ·rw [if_pos q] at h
        refine ⟨(conjC (cc_u23 k y5 y6 y7 y8 (y2.getD y4.toNat T2.dflt).1 q) conj0), ?_⟩
        refine ⟨fun c => ?_, fun c => ?_⟩
        ·rw [cond_t (show ((v_u23 k y5 y6 y7 y8 (y2.getD y4.toNat T2.dflt).1)) = true from c)] at h
         exact ih.1 y0 true y2 y3 ((i64.wrap (y4 + 1))) y5 y6 y7 y8 _ h
        ·rw [cond_f (show ((v_u23 k y5 y6 y7 y8 (y2.getD y4.toNat T2.dflt).1)) = false from c)] at h
         exact ih.1 y0 y1 y2 y3 ((i64.wrap (y4 + 1))) y5 y6 y7 ((mset I (y2.getD y4.toNat T2.dflt).1 y4 y8)) _ h
       ·rw [if_neg q] at h; cases h
     ·rw [if_neg q] at h; cases h
    ·rw [if_neg q] at h; cases h
   ·rw [cond_f (show ((decide (y4 < y3))) = false from c)] at h
    refine ⟨fun c => ?_, fun c => ?_⟩
    ·rw [cond_t (show y1 = true from c)] at h
     cases h; exact ⟨rfl, rfl⟩
    ·rw [cond_f (show y1 = false from c)] at h
     exact ih.2.1 y0 y0 ((↑y0.length : Int)) 0 y5 y6 y7 y8 _ h
  ·intro y0 y1 y2 y3 y4 y5 y6 y7 r h
   rw [f_u14_20] at h
   refine Ev.tree hm (R := Rt) (K := (K_u14 k)) (l := []) (C := [(8, [.autoB [0, 6, 7, 41, 42, 43] false []]), (20, [.autoB [0, 6, 67, 68, 69] false []]), (23, [.autoB [0, 6, 12, 67, 68, 69, 76, 77, 78] false []])]) (E := [.autoB [4, 5] true []]) (n := 1000) (T := .test ((decide (y3 < y2))) (.need [0 ≤ y3, y3 < (↑y1.length : Int)] (.need [(0 : Int) ≤ (0 : Int), 0 ≤ y3, y3 ≤ (↑y0.length : Int)] (.cut 23 (placeAt Try.f17 23) (st_u14_23 y0 y1 y2 y3 ((List.take (y3.toNat - Int.toNat 0) (List.drop (Int.toNat 0) y0))) ((↑ (List.take (y3.toNat - Int.toNat 0) (List.drop (Int.toNat 0) y0)).length : Int)) 0 y4 y5 y6 y7 ((y1.getD y3.toNat T2.dflt)))))) (.leaf (resB_u14 ((0, y4, y5, y6, y7))) (boB_u14 l_ web_ ((0, y4, y5, y6, y7))))) (by kernel_rfl) ?_
   refine ⟨fun c => ?_, fun c => ?_⟩
   ·rw [cond_t (show ((decide (y3 < y2))) = true from c)] at h
    by_cases q : (0 ≤ y3) ∧ (y3 < (↑y1.length : Int))
    ·rw [if_pos q] at h
     refine ⟨(conjC q.1 (conjC q.2 conj0)), ?_⟩
     by_cases q : ((0 : Int) ≤ (0 : Int)) ∧ (0 ≤ y3) ∧ (y3 ≤ (↑y0.length : Int))
     ·rw [if_pos q] at h
      refine ⟨(conjC q.1 (conjC q.2.1 (conjC q.2.2 conj0))), ?_⟩
      exact ih.2.2 y0 y1 y2 y3 ((List.take (y3.toNat - Int.toNat 0) (List.drop (Int.toNat 0) y0))) ((↑ (List.take (y3.toNat - Int.toNat 0) (List.drop (Int.toNat 0) y0)).length : Int)) 0 y4 y5 y6 y7 ((y1.getD y3.toNat T2.dflt)) _ h
     ·rw [if_neg q] at h; cases h
    ·rw [if_neg q] at h; cases h
   ·rw [cond_f (show ((decide (y3 < y2))) = false from c)] at h
    cases h; exact ⟨rfl, rfl⟩
  ·intro y0 y1 y2 y3 y4 y5 y6 y7 y8 y9 y10 y11 r h
   rw [f_u14_23] at h
   refine Ev.tree hm (R := Rt) (K := (K_u14 k)) (l := []) (C := [(8, [.autoB [0, 6, 7, 41, 42, 43] false []]), (20, [.autoB [0, 6, 67, 68, 69] false []]), (23, [.autoB [0, 6, 12, 67, 68, 69, 76, 77, 78] false []])]) (E := [.autoB [4, 5] true []]) (n := 1000) (T := .test ((decide (y6 < y5))) (.need [0 ≤ y6, y6 < (↑y4.length : Int)] (.test ((y11.2.1 == (y4.getD y6.toNat T2.dflt).2.1)) (.need [(y11.2.1 == (y4.getD y6.toNat T2.dflt).2.1) = true, CC Try.prog 34 (args_u15 y11.2.2 (y4.getD y6.toNat T2.dflt).2.2) (bin_u15 y11.2.2 (y4.getD y6.toNat T2.dflt).2.2) (res_u15 (v_u15 k y11.2.2 (y4.getD y6.toNat T2.dflt).2.2)) (bo_u15 y11.2.2 (y4.getD y6.toNat T2.dflt).2.2 (v_u15 k y11.2.2 (y4.getD y6.toNat T2.dflt).2.2))] (.test ((true && v_u15 k y11.2.2 (y4.getD y6.toNat T2.dflt).2.2)) (.leaf (resA_u14 12) (boA_u14 l_ web_ 12)) (.cut 23 (placeAt Try.f17 23) (st_u14_23 y0 y1 y2 y3 y4 y5 ((i64.wrap (y6 + 1))) y7 y8 y9 y10 y11)))) (.need [(y11.2.1 == (y4.getD y6.toNat T2.dflt).2.1) = false] (.test (false) (.leaf (.tup [.r (.v (Value.pointer none)), .r (.v (.int .i64 12))]) []) (.cut 23 (placeAt Try.f17 23) (st_u14_23 y0 y1 y2 y3 y4 y5 ((i64.wrap (y6 + 1))) y7 y8 y9 y10 y11)))))) (.cut 20 (placeAt Try.f17 20) (st_u14_20 y0 y1 y2 ((i64.wrap (y3 + 1))) y7 y8 y9 y10))) (by kernel_rfl) ?_
   refine ⟨fun c => ?_, fun c => ?_⟩
   ·rw [cond_t (show ((decide (y6 < y5))) = true from c)] at h
    by_cases q : (0 ≤ y6) ∧ (y6 < (↑y4.length : Int))
    ·rw [if_pos q] at h
     refine ⟨(conjC q.1 (conjC q.2 conj0)), ?_⟩
     refine ⟨fun c => ?_, fun c => ?_⟩
     ·rw [cond_t (show ((y11.2.1 == (y4.getD y6.toNat T2.dflt).2.1)) = true from c)] at h
      by_cases q : ((y11.2.1 == (y4.getD y6.toNat T2.dflt).2.1) = true) ∧ ((f_u15 k y11.2.2 (y4.getD y6.toNat T2.dflt).2.2).isSome = true)
      ·rw [if_pos q] at h
       refine ⟨(conjC q.1 (conjC (cc_u15 k y11.2.2 (y4.getD y6.toNat T2.dflt).2.2 q.2) conj0)), ?_⟩
       refine ⟨fun c => ?_, fun c => ?_⟩
       ·rw [cond_t (show ((true && v_u15 k y11.2.2 (y4.getD y6.toNat T2.dflt).2.2)) = true from c)] at h
        cases h; exact ⟨rfl, rfl⟩
       ·rw [cond_f (show ((true && v_u15 k y11.2.2 (y4.getD y6.toNat T2.dflt).2.2)) = false from c)] at h
        exact ih.2.2 y0 y1 y2 y3 y4 y5 ((i64.wrap (y6 + 1))) y7 y8 y9 y10 y11 _ h
      ·rw [if_neg q] at h; cases h
     ·rw [cond_f (show ((y11.2.1 == (y4.getD y6.toNat T2.dflt).2.1)) = false from c)] at h
      by_cases q : ((y11.2.1 == (y4.getD y6.toNat T2.dflt).2.1) = false)
      ·rw [if_pos q] at h
       refine ⟨(conjC q conj0), ?_⟩
       refine ⟨fun c => ?_, fun c => ?_⟩
       ·cases c
       exact ih.2.2 y0 y1 y2 y3 y4 y5 ((i64.wrap (y6 + 1))) y7 y8 y9 y10 y11 _ h
      ·rw [if_neg q] at h; cases h
    ·rw [if_neg q] at h; cases h
   ·rw [cond_f (show ((decide (y6 < y5))) = false from c)] at h
    exact ih.2.1 y0 y1 y2 ((i64.wrap (y3 + 1))) y7 y8 y9 y10 _ h
theorem of_u14 (k : Nat) (l_ : List (T2).T) (web_ : T5.T) (r : R_u14) (h : f_u14 k l_ web_ = some r) : CC Try.prog 17 (args_u14 l_ web_) (bin_u14 l_ web_) (res_u14 r) (bo_u14 l_ web_ r) := by
 refine CC.of (fn := Try.f17) (by kernel_rfl) (by kernel_rfl) (by kernel_rfl) (by kernel_rfl) ?_
 unfold f_u14 at h
 refine Ev.tree hm (R := Rt) (K := (K_u14 k)) (l := []) (C := [(8, [.autoB [0, 6, 7, 41, 42, 43] false []]), (20, [.autoB [0, 6, 67, 68, 69] false []]), (23, [.autoB [0, 6, 12, 67, 68, 69, 76, 77, 78] false []])]) (E := [.autoB [4, 5] true []]) (n := 1000) (T := .test ((decide (web_.1 < (1 : Int)) || decide (web_.1 > (12000 : Int)) || decide (web_.2 < (0 : Int)) || decide (web_.2 > (17179869184 : Int)))) (.leaf (resA_u14 1) (boA_u14 l_ web_ 1)) (.test ((decide ((↑l_.length : Int) > (512 : Int)))) (.leaf (resA_u14 8) (boA_u14 l_ web_ 8)) (.cut 8 (placeAt Try.f17 8) (st_u14_8 l_ false l_ ((↑l_.length : Int)) 0 web_.1 web_.2 l_ ([]))))) (by kernel_rfl) ?_
 refine ⟨fun c => ?_, fun c => ?_⟩
 ·rw [cond_t (show ((decide (web_.1 < (1 : Int)) || decide (web_.1 > (12000 : Int)) || decide (web_.2 < (0 : Int)) || decide (web_.2 > (17179869184 : Int)))) = true from c)] at h
  cases h; exact ⟨rfl, rfl⟩
 ·rw [cond_f (show ((decide (web_.1 < (1 : Int)) || decide (web_.1 > (12000 : Int)) || decide (web_.2 < (0 : Int)) || decide (web_.2 > (17179869184 : Int)))) = false from c)] at h
  refine ⟨fun c => ?_, fun c => ?_⟩
  ·rw [cond_t (show ((decide ((↑l_.length : Int) > (512 : Int)))) = true from c)] at h
   cases h; exact ⟨rfl, rfl⟩
  ·rw [cond_f (show ((decide ((↑l_.length : Int) > (512 : Int)))) = false from c)] at h
   exact (ev_u14 k l_ web_ k).1 l_ false l_ ((↑l_.length : Int)) 0 web_.1 web_.2 l_ ([]) _ h
theorem cc_u14 (k : Nat) (l_ : List (T2).T) (web_ : T5.T) (h : (f_u14 k l_ web_).isSome = true) : CC Try.prog 17 (args_u14 l_ web_) (bin_u14 l_ web_) (res_u14 (v_u14 k l_ web_)) (bo_u14 l_ web_ (v_u14 k l_ web_)) := by
 cases e : f_u14 k l_ web_ with
 | none => rw [e] at h; cases h
 | some r => rw [show v_u14 k l_ web_ = r by simp [v_u14, e]]; exact of_u14 k l_ web_ r e
theorem ccA_u14 (k : Nat) (l_ : List (T2).T) (web_ : T5.T) (h : (f_u14 k l_ web_).isSome = true) (hb : (v_u14 k l_ web_).isLeft = true) : CC Try.prog 17 (args_u14 l_ web_) (bin_u14 l_ web_) (resA_u14 (vA_u14 k l_ web_)) (boA_u14 l_ web_ (vA_u14 k l_ web_)) := by
 have h1 := cc_u14 k l_ web_ h
 unfold vA_u14
 cases e : v_u14 k l_ web_ with
 | inl a => rw [e] at h1 hb; exact h1
 | inr a => rw [e] at h1 hb; cases hb
theorem ccB_u14 (k : Nat) (l_ : List (T2).T) (web_ : T5.T) (h : (f_u14 k l_ web_).isSome = true) (hb : (v_u14 k l_ web_).isLeft = false) : CC Try.prog 17 (args_u14 l_ web_) (bin_u14 l_ web_) (resB_u14 (vB_u14 k l_ web_)) (boB_u14 l_ web_ (vB_u14 k l_ web_)) := by
 have h1 := cc_u14 k l_ web_ h
 unfold vB_u14
 cases e : v_u14 k l_ web_ with
 | inl a => rw [e] at h1 hb; cases hb
 | inr a => rw [e] at h1 hb; exact h1

end
end Go.AM
namespace Go.AM
open Go Go.Proofs Go.IntKind
set_option linter.unusedVariables false
noncomputable section
abbrev R_u4 : Type := Int
def res_u4 (r : R_u4) : AV := .r (.v (.int .i64 r))
def bo_u4 (l_ : List (T2).T) (width_ : Int) (length_ : Int) (r : R_u4) : List (Nat × Blk) := []
def args_u4 (l_ : List (T2).T) (width_ : Int) (length_ : Int) : List AV := [.r (.ro T2 l_), .r (.v (.int .i64 width_)), .r (.v (.int .i64 length_))]
def bin_u4 (l_ : List (T2).T) (width_ : Int) (length_ : Int) : List Blk := []
def f_u4 (k : Nat) (l_ : List (T2).T) (width_ : Int) (length_ : Int) : Option R_u4 :=
 bif (Sum.isLeft (v_u14 k l_ (width_, length_))) then
 if ((f_u14 k l_ (width_, length_)).isSome = true) then
 some (vA_u14 k l_ (width_, length_))
 else none
 else
 if ((f_u14 k l_ (width_, length_)).isSome = true) then
 some ((vB_u14 k l_ (width_, length_)).1)
 else none
def v_u4 (k : Nat) (l_ : List (T2).T) (width_ : Int) (length_ : Int) : R_u4 := (f_u4 k l_ width_ length_).getD 0
def K_u4 (k : Nat) : Calld := ⟨fun g xs => match g with
 | 17 => match xs with
  | [_, _] => some [false, false]
  | _ => none
 | _ => none, fun g xs bs => match g with
 | 17 => match xs, bs with
  | [.r (.ro tl__ ql_), .agg qweb_], [] => (castL tl__ T2 ql_).bind fun l_ => (decS [] T5 qweb_).bind fun web_ => some (.two (v_u14 k l_ web_).isLeft (resA_u14 (vA_u14 k l_ web_), boA_u14 l_ web_ (vA_u14 k l_ web_)) (resB_u14 (vB_u14 k l_ web_), boB_u14 l_ web_ (vB_u14 k l_ web_)))
  | _, _ => none
 | _ => none⟩
theorem of_u4 (k : Nat) (l_ : List (T2).T) (width_ : Int) (length_ : Int) (r : R_u4) (h : f_u4 k l_ width_ length_ = some r) : CC Try.prog 7 (args_u4 l_ width_ length_) (bin_u4 l_ width_ length_) (res_u4 r) (bo_u4 l_ width_ length_ r) := by
 refine CC.of (fn := Try.f7) (by kernel_rfl) (by kernel_rfl) (by kernel_rfl) (by kernel_rfl) ?_
 unfold f_u4 at h
 refine Ev.tree hm (R := Rt) (K := (K_u4 k)) (l := []) (C := []) (E := [.autoB [6] true []]) (n := 1000) (T := .test ((Sum.isLeft (v_u14 k l_ (width_, length_)))) (.need [CC Try.prog 17 (args_u14 l_ (width_, length_)) (bin_u14 l_ (width_, length_)) (resA_u14 (vA_u14 k l_ (width_, length_))) (boA_u14 l_ (width_, length_) (vA_u14 k l_ (width_, length_)))] (.leaf (res_u4 (vA_u14 k l_ (width_, length_))) (bo_u4 l_ width_ length_ (vA_u14 k l_ (width_, length_))))) (.need [CC Try.prog 17 (args_u14 l_ (width_, length_)) (bin_u14 l_ (width_, length_)) (resB_u14 (vB_u14 k l_ (width_, length_))) (boB_u14 l_ (width_, length_) (vB_u14 k l_ (width_, length_)))] (.leaf (res_u4 ((vB_u14 k l_ (width_, length_)).1)) (bo_u4 l_ width_ length_ ((vB_u14 k l_ (width_, length_)).1))))) (by kernel_rfl) ?_
 refine ⟨fun c => ?_, fun c => ?_⟩
 ·rw [cond_t (show ((Sum.isLeft (v_u14 k l_ (width_, length_)))) = true from c)] at h
  by_cases q : ((f_u14 k l_ (width_, length_)).isSome = true)
  ·rw [if_pos q] at h
   refine ⟨(conjC (ccA_u14 k l_ (width_, length_) q (by assumption)) conj0), ?_⟩
   cases h; exact ⟨rfl, rfl⟩
  ·rw [if_neg q] at h; cases h
 ·rw [cond_f (show ((Sum.isLeft (v_u14 k l_ (width_, length_)))) = false from c)] at h
  by_cases q : ((f_u14 k l_ (width_, length_)).isSome = true)
  ·rw [if_pos q] at h
   refine ⟨(conjC (ccB_u14 k l_ (width_, length_) q (by assumption)) conj0), ?_⟩
   cases h; exact ⟨rfl, rfl⟩
  ·rw [if_neg q] at h; cases h
theorem cc_u4 (k : Nat) (l_ : List (T2).T) (width_ : Int) (length_ : Int) (h : (f_u4 k l_ width_ length_).isSome = true) : CC Try.prog 7 (args_u4 l_ width_ length_) (bin_u4 l_ width_ length_) (res_u4 (v_u4 k l_ width_ length_)) (bo_u4 l_ width_ length_ (v_u4 k l_ width_ length_)) := by
 cases e : f_u4 k l_ width_ length_ with
 | none => rw [e] at h; cases h
 | some r => rw [show v_u4 k l_ width_ length_ = r by simp [v_u4, e]]; exact of_u4 k l_ width_ length_ r e

end
end Go.AM
namespace Go.AM
open Go Go.Proofs

def Wl (p : List Ro) : Prop := ∀ r ∈ p, Small r.2.2
theorem Wl.size {p : List Ro} {W L : Int} (h : Wl p) (hW : 0 ≤ W ∧ W ≤ 12000) (id : Int) : 0 ≤ (sizeS p W L id).1 ∧ (sizeS p W L id).1 ≤ 12000 := by
  unfold sizeS
  by_cases h0 : id = 0
  · rw [if_pos h0]; exact hW
  · rw [if_neg h0]
    cases e : look p id with
    | none => exact ⟨by decide, by decide⟩
    | some q =>
      obtain ⟨a, b, c, _⟩ := h q (look_some e).1
      exact ⟨by show 0 ≤ q.2.2.2.1; omega, by show q.2.2.2.1 ≤ _; omega⟩
theorem Wl.snoc {p : List Ro} {W L : Int} {r : Ro} (h : Wl p) (hW : 0 ≤ W ∧ W ≤ 12000) (f : fitsS p W L r = 0) : Wl (p ++ [r]) := by
  obtain ⟨_, _, _, c⟩ := fitsS_zero.1 f
  obtain ⟨s1, s2⟩ := h.size (L := L) hW r.2.1
  intro q hq
  rcases List.mem_append.1 hq with hq | hq
  · exact h q hq
  · rw [List.mem_singleton] at hq
    subst hq
    have := c.right
    exact ⟨c.left, c.width, by omega, c.chk⟩

theorem fam_size_s (k : Nat) (hk : 2100 ≤ k) (W L : Int) (p t : List Ro) (M : List (Int × Int)) (id : Int) (hp : Wl p) (hM : RegOk M p) (h : id = 0 ∨ ∃ q, look p id = some q) : f_u26 k W L (p ++ t) M id = some (sizeS p W L id) := by
  unfold f_u26 sizeS
  by_cases h0 : id = 0
  · rw [if_pos h0, show (id == 0) = true from beq_iff_eq.2 h0, cond_true]
  · rw [if_neg h0, show (id == 0) = false from beq_false_of_ne h0, cond_false]
    rcases h with h | ⟨q, h⟩
    · exact absurd h h0
    · obtain ⟨i, e1, e2, e3⟩ := (hM id).some h
      have hl : (p ++ t).length = p.length + t.length := List.length_append
      have hs := hp q (look_some h).1
      have hi : (i : Int) < ((p ++ t).length : Int) := by omega
      rw [e1, Option.getD_some, if_pos ⟨by omega, hi⟩, Int.toNat_natCast, getD_app _ _ _ _ e2, e3, h]
      show (if (f_u35 k q.2.2.2.2.2).isSome = true then some (q.2.2.2.1, (v_u35 k q.2.2.2.2.2).1) else none) = _
      rw [iso_Length_s k hk _ hs.chk, iso_Length_v k hk _ hs.chk]
      rfl
theorem fam_size_v (k : Nat) (hk : 2100 ≤ k) (W L : Int) (p t : List Ro) (M : List (Int × Int)) (id : Int) (hp : Wl p) (hM : RegOk M p) (h : id = 0 ∨ ∃ q, look p id = some q) : v_u26 k W L (p ++ t) M id = sizeS p W L id := by
  unfold v_u26; rw [fam_size_s k hk W L p t M id hp hM h]; rfl

theorem fam_fits_17 (k : Nat) (W L : Int) (l : List Ro) (M : List (Int × Int)) (r : Ro) (n : Int) (m : List Rn) (hm : goods m) (hl : m.length ≤ 256) : ∀ (d i j : Nat), i + d = m.length → d < j →
    f_u22_17 k W L l M r j n m (m.length : Int) (i : Int) = some (if fitsIn n (m.drop i) then 0 else 21) := by
  intro d
  induction d with
  | zero =>
    intro i j hi hj
    obtain ⟨j, rfl⟩ : ∃ q, j = q + 1 := ⟨j - 1, by omega⟩
    rw [f_u22_17, decide_eq_false (by omega : ¬ (i : Int) < (m.length : Int)), cond_false, List.drop_of_length_le (by omega), if_pos (by trivial)]
  | succ d ih =>
    intro i j hi hj
    obtain ⟨j, rfl⟩ : ∃ q, j = q + 1 := ⟨j - 1, by omega⟩
    have hg : good (m.getD i T0.dflt) := hm.mem _ (getD_mem' _ _ _ (by omega))
    rw [f_u22_17, decide_eq_true (by omega : (i : Int) < (m.length : Int)), cond_true, if_pos ⟨by omega, by omega⟩, Int.toNat_natCast, fam_bounds_s k _ hg, fam_bounds_v k _ hg, Option.isSome_some, if_pos rfl, drop_cons' m i T0.dflt (by omega), wrapS i (by omega)]
    show (bif decide (Go.AM.hi (m.getD i T0.dflt) ≥ n) then _ else _) = _
    by_cases h : Go.AM.hi (m.getD i T0.dflt) ≥ n
    · rw [decide_eq_true h, cond_true, if_neg (fun e : fitsIn n (m.getD i T0.dflt :: m.drop (i + 1)) => by have := e.1; omega)]
    · rw [decide_eq_false h, cond_false, ih (i + 1) j (by omega) (by omega)]
      by_cases h2 : fitsIn n (m.drop (i + 1))
      · rw [if_pos h2, if_pos (show fitsIn n (m.getD i T0.dflt :: m.drop (i + 1)) from ⟨by omega, h2⟩)]
      · rw [if_neg h2, if_neg (fun e : fitsIn n (m.getD i T0.dflt :: m.drop (i + 1)) => h2 e.2)]
theorem cut_test (c : Ch) (w : Int) (hw : 0 ≤ w ∧ w ≤ 12000) : (decide (c.1 < (0 : Int)) || decide (c.2.1 < (1 : Int)) || decide (c.1 > w) || decide (c.2.1 > IntKind.i64.wrap (w - c.1))) = decide (c.1 < 0 ∨ c.2.1 < 1 ∨ c.1 > w ∨ c.2.1 > w - c.1) := by
  by_cases h1 : c.1 < 0
  · rw [decide_eq_true h1, Bool.true_or, Bool.true_or, Bool.true_or, decide_eq_true (Or.inl h1)]
  · by_cases h2 : c.2.1 < 1
    · rw [decide_eq_true h2, Bool.or_true, Bool.true_or, Bool.true_or, decide_eq_true (Or.inr (Or.inl h2))]
    · by_cases h3 : c.1 > w
      · rw [decide_eq_true h3, Bool.or_true, Bool.true_or, decide_eq_true (Or.inr (Or.inr (Or.inl h3)))]
      · rw [decide_eq_false h1, decide_eq_false h2, decide_eq_false h3, wrap_id (by omega) (by omega), Bool.or_false, Bool.or_false, Bool.false_or]
        by_cases h4 : c.2.1 > w - c.1
        · rw [decide_eq_true h4, decide_eq_true (Or.inr (Or.inr (Or.inr h4)))]
        · rw [decide_eq_false h4, decide_eq_false (by omega)]
theorem fam_fits_tail (k : Nat) (hk : 2100 ≤ k) (W L : Int) (l : List Ro) (M : List (Int × Int)) (r : Ro) (c : Ch) (w n : Int) (hw : 0 ≤ w ∧ w ≤ 12000) :
    (bif (decide (c.1 < (0 : Int)) || decide (c.2.1 < (1 : Int)) || decide (c.1 > w) || decide (c.2.1 > IntKind.i64.wrap (w - c.1))) then some 20
     else if ((f_u31 k c.2.2.2).isSome = true) then
       bif (v_u31 k c.2.2.2 != (0 : Int)) then some (v_u31 k c.2.2.2)
       else bif ((↑ (List.length c.2.2.2) : Int) == (0 : Int)) then some 10
       else if ((f_u36 k c.2.2.2).isSome = true) then
         bif (!v_u36 k c.2.2.2) then some 12
         else f_u22_17 k W L l M r k n c.2.2.2 ((↑ (List.length c.2.2.2) : Int)) 0
       else none
     else none) = some (cutE c w n) := by
  unfold cutE
  rw [cut_test c w hw, iso_Check_s k (by omega), iso_Check_v k (by omega), Option.isSome_some, if_pos rfl, iso_Single_s k hk, iso_Single_v k hk, Option.isSome_some, if_pos rfl]
  by_cases h1 : c.1 < 0 ∨ c.2.1 < 1 ∨ c.1 > w ∨ c.2.1 > w - c.1
  · rw [decide_eq_true h1, cond_true, if_pos h1]
  · rw [decide_eq_false h1, cond_false, if_neg h1]
    by_cases h2 : chk c.2.2.2 = 0
    · have hc := chk_zero.1 h2
      have hl := hc.len
      rw [show (chk c.2.2.2 != 0) = false by simp [h2], cond_false, if_neg (fun h : chk c.2.2.2 ≠ 0 => h h2)]
      by_cases h3 : c.2.2.2 = []
      · rw [h3, if_pos rfl]; rfl
      · rw [if_neg h3, show (((List.length c.2.2.2 : Nat) : Int) == 0) = false from beq_false_of_ne (fun e => h3 (List.length_eq_zero_iff.1 (by omega))), cond_false]
        cases h4 : singleS c.2.2.2
        · rfl
        · rw [Bool.not_true, cond_false, if_neg (by decide)]
          refine (fam_fits_17 k W L l M r n c.2.2.2 hc.goods hl c.2.2.2.length 0 k (by omega) (by omega)).trans ?_
          rw [List.drop_zero]
    · rw [show (chk c.2.2.2 != 0) = true by simp [h2], cond_true, if_pos h2]
theorem fam_fits_s (k : Nat) (hk : 2100 ≤ k) (W L : Int) (hW : 0 ≤ W ∧ W ≤ 12000) (p t : List Ro) (M : List (Int × Int)) (r : Ro) (hp : Wl p) (hM : RegOk M p) : f_u22 k W L (p ++ t) M r = some (fitsS p W L r) := by
  unfold f_u22 fitsS
  by_cases h1 : r.1 < 1 ∨ r.1 > 1000000
  · rw [if_pos h1, show (decide (r.1 < 1) || decide (r.1 > 1000000)) = true by simpa using h1, cond_true]
  · rw [if_neg h1, show (decide (r.1 < 1) || decide (r.1 > 1000000)) = false by simp; omega, cond_false]
    have hs := hp.size (L := L) hW r.2.1
    by_cases h2 : r.2.1 = 0
    · rw [show (r.2.1 != 0) = false by simp [h2], cond_false, if_pos rfl, if_neg (fun h : r.2.1 ≠ 0 ∧ look p r.2.1 = none => h.1 h2), fam_size_s k hk W L p t M r.2.1 hp hM (.inl h2), fam_size_v k hk W L p t M r.2.1 hp hM (.inl h2), Option.isSome_some, if_pos rfl]
      exact fam_fits_tail k hk W L (p ++ t) M r r.2.2 _ _ hs
    · have hkn : v_u23 k W L (p ++ t) M r.2.1 = (mget I r.2.1 M).isSome := by unfold v_u23 f_u23; rfl
      rw [show (r.2.1 != 0) = true by simp [h2], cond_true, if_pos ⟨rfl, rfl⟩, hkn, Bool.true_and]
      cases e : look p r.2.1 with
      | none => rw [(hM r.2.1).none e, if_pos (show r.2.1 ≠ 0 ∧ (none : Option Ro) = none from ⟨h2, rfl⟩)]; rfl
      | some q =>
        obtain ⟨i, e1, e2, e3⟩ := (hM r.2.1).some e
        rw [e1, if_neg (show ¬ (r.2.1 ≠ 0 ∧ some q = none) from fun h => nomatch h.2), Option.isSome_some, Bool.not_true, cond_false, fam_size_s k hk W L p t M r.2.1 hp hM (.inr ⟨q, e⟩), fam_size_v k hk W L p t M r.2.1 hp hM (.inr ⟨q, e⟩), Option.isSome_some, if_pos rfl]
        exact fam_fits_tail k hk W L (p ++ t) M r r.2.2 _ _ hs
theorem fam_fits_v (k : Nat) (hk : 2100 ≤ k) (W L : Int) (hW : 0 ≤ W ∧ W ≤ 12000) (p t : List Ro) (M : List (Int × Int)) (r : Ro) (hp : Wl p) (hM : RegOk M p) : v_u22 k W L (p ++ t) M r = fitsS p W L r := by
  unfold v_u22; rw [fam_fits_s k hk W L hW p t M r hp hM]; rfl

theorem fam_open_23 (k : Nat) (hk : 70000 ≤ k) (l : List Ro) (n i W L : Int) (M : List (Int × Int)) (r : Ro) (hr : Small r.2.2) (p : List Ro) (hp : Wl p) (hpl : p.length ≤ 512) : ∀ (d q m : Nat), q + d = p.length →
    f_u14_23 k (m + d + 1) l l n i p (p.length : Int) (q : Int) W L l M r = if clash (p.drop q) r = true then some (.inl 12) else f_u14_20 k m l l n (IntKind.i64.wrap (i + 1)) W L l M := by
  intro d
  induction d with
  | zero =>
    intro q m hq
    rw [f_u14_23, decide_eq_false (by omega : ¬ (q : Int) < (p.length : Int)), cond_false, List.drop_of_length_le (by omega), if_neg (by unfold clash; rw [List.any_nil]; decide)]
  | succ d ih =>
    intro q m hq
    have hs : Small (p.getD q T2.dflt).2.2 := hp _ (getD_mem' _ _ _ (by omega))
    have hc : clash (p.drop q) r = ((r.2.1 == (p.getD q T2.dflt).2.1) && ovlS r.2.2 (p.getD q T2.dflt).2.2 || clash (p.drop (q + 1)) r) := by
      unfold clash; rw [drop_cons' p q T2.dflt (by omega), List.any_cons]
    rw [show m + (d + 1) + 1 = (m + d + 1) + 1 from rfl, f_u14_23, decide_eq_true (by omega : (q : Int) < (p.length : Int)), cond_true, if_pos ⟨by omega, by omega⟩, Int.toNat_natCast, wrapS q (by omega), ih (q + 1) m (by omega), hc]
    cases e : (r.2.1 == (p.getD q T2.dflt).2.1)
    · rw [cond_false, if_pos rfl, Bool.false_and, Bool.false_or]
    · rw [cond_true, Bool.true_and, fam_overlap_v k hk _ _ hr hs, if_pos ⟨rfl, by rw [fam_overlap_s k hk _ _ hr hs]; rfl⟩, Bool.true_and]
      cases ovlS r.2.2 (p.getD q T2.dflt).2.2
      · rw [cond_false, Bool.false_or]
      · rfl
set_option maxRecDepth 20000 in
theorem fam_open_20 (k : Nat) (hk : 70000 ≤ k) (l : List Ro) (W L : Int) (M : List (Int × Int)) (hl : Wl l) (hll : l.length ≤ 512) : ∀ (d i j : Nat), i + d = l.length → d * 514 < j →
    f_u14_20 k j l l (l.length : Int) (i : Int) W L l M = if clashGo (l.take i) (l.drop i) = true then some (.inl 12) else some (.inr (0, W, L, l, M)) := by
  intro d
  induction d with
  | zero =>
    intro i j hi hj
    obtain ⟨j, rfl⟩ : ∃ q, j = q + 1 := ⟨j - 1, by omega⟩
    rw [f_u14_20, decide_eq_false (by omega : ¬ (i : Int) < (l.length : Int)), cond_false, List.drop_of_length_le (by omega), clashGo, if_neg (by decide)]
  | succ d ih =>
    intro i j hi hj
    obtain ⟨j, rfl⟩ : ∃ q, j = (q + (l.take i).length + 1) + 1 := ⟨j - (l.take i).length - 2, by rw [List.length_take]; omega⟩
    rw [List.length_take] at hj
    have hs : Small (l.getD i T2.dflt).2.2 := hl _ (getD_mem' _ _ _ (by omega))
    have h23 := fam_open_23 k hk l (l.length : Int) (i : Int) W L M (l.getD i T2.dflt) hs (l.take i) (fun r hr => hl r (List.mem_of_mem_take hr)) (by rw [List.length_take]; omega) (l.take i).length 0 j (by omega)
    rw [f_u14_20, decide_eq_true (by omega : (i : Int) < (l.length : Int)), cond_true, if_pos ⟨by omega, by omega⟩, if_pos ⟨by omega, by omega, by omega⟩, Int.toNat_natCast, Int.toNat_zero, List.drop_zero, Nat.sub_zero]
    refine h23.trans ?_
    rw [List.drop_zero, wrapS i (by omega), ih (i + 1) j (by omega) (by omega), drop_cons' l i T2.dflt (by omega), clashGo, take_snoc l i T2.dflt (by omega)]
    cases clash (l.take i) (l.getD i T2.dflt)
    · rw [if_neg (by decide), Bool.false_or]
    · rfl
theorem fam_open_8 (k : Nat) (hk : 300000 ≤ k) (l : List Ro) (W L : Int) (hW : 0 ≤ W ∧ W ≤ 12000) (hll : l.length ≤ 512) : ∀ (d i j : Nat) (dup : Bool) (M : List (Int × Int)), i + d = l.length → d + 1 + 263168 < j → RegOk M (l.take i) → Wl (l.take i) →
    ∃ M', (errsGo W L (l.take i) (l.drop i) = 0 → RegOk M' l ∧ Wl l) ∧ f_u14_8 k j l dup l (l.length : Int) (i : Int) W L l M =
      if errsGo W L (l.take i) (l.drop i) ≠ 0 then some (.inl (errsGo W L (l.take i) (l.drop i))) else if (dup || dupGo (l.take i) (l.drop i)) = true then some (.inl 6) else if clashGo [] l = true then some (.inl 12) else some (.inr (0, W, L, l, M')) := by
  intro d
  induction d with
  | zero =>
    intro i j dup M hi hj hM hw
    obtain ⟨j, rfl⟩ : ∃ q, j = q + 1 := ⟨j - 1, by omega⟩
    have h20 := fam_open_20 k (by omega) l W L M (by rw [List.take_of_length_le (by omega)] at hw; exact hw) hll l.length 0 j (by omega) (by omega)
    rw [List.take_of_length_le (by omega : l.length ≤ i)] at hM hw
    refine ⟨M, fun _ => ⟨hM, hw⟩, ?_⟩
    rw [f_u14_8, decide_eq_false (by omega : ¬ (i : Int) < (l.length : Int)), cond_false, List.drop_of_length_le (by omega), errsGo, if_neg (fun h => h rfl), dupGo, Bool.or_false]
    cases dup
    · rw [cond_false, if_neg (by decide)]
      exact h20
    · rfl
  | succ d ih =>
    intro i j dup M hi hj hM hw
    obtain ⟨j, rfl⟩ : ∃ q, j = q + 1 := ⟨j - 1, by omega⟩
    have hf := fam_fits_s k (by omega) W L hW (l.take i) (l.drop i) M (l.getD i T2.dflt) hw hM
    have hv := fam_fits_v k (by omega) W L hW (l.take i) (l.drop i) M (l.getD i T2.dflt) hw hM
    rw [List.take_append_drop] at hf hv
    have hkn : v_u23 k W L l M (l.getD i T2.dflt).1 = (mget I (l.getD i T2.dflt).1 M).isSome := by unfold v_u23 f_u23; rfl
    have ht := take_snoc l i T2.dflt (by omega)
    by_cases h1 : fitsS (l.take i) W L (l.getD i T2.dflt) = 0
    · have hw2 : Wl (l.take (i + 1)) := by rw [ht]; exact hw.snoc hW h1
      cases e : look (l.take i) (l.getD i T2.dflt).1 with
      | none =>
        have hM2 : RegOk (mset I (l.getD i T2.dflt).1 (i : Int) M) (l.take (i + 1)) := by
          have := regOk_new hM (l.getD i T2.dflt) e
          rw [ht]
          rw [List.length_take, show min i l.length = i by omega] at this
          exact this
        obtain ⟨M', m1, m2⟩ := ih (i + 1) j dup _ (by omega) (by omega) hM2 hw2
        rw [ht] at m1 m2
        rw [drop_cons' l i T2.dflt (by omega), errsGo, if_neg (fun h => h h1), dupGo, e]
        refine ⟨M', m1, ?_⟩
        rw [f_u14_8, decide_eq_true (by omega : (i : Int) < (l.length : Int)), cond_true, if_pos ⟨by omega, by omega⟩, Int.toNat_natCast, hf, hv, Option.isSome_some, if_pos rfl, h1]
        show (bif v_u23 k W L l M (l.getD i T2.dflt).1 then _ else _) = _
        rw [hkn, (hM _).none e, wrapS i (by omega)]
        exact m2
      | some q =>
        have hM2 : RegOk M (l.take (i + 1)) := by
          have := regOk_old hM (l.getD i T2.dflt) (by rw [e]; rfl)
          rw [ht]
          exact this
        obtain ⟨M', m1, m2⟩ := ih (i + 1) j true _ (by omega) (by omega) hM2 hw2
        rw [ht] at m1 m2
        rw [drop_cons' l i T2.dflt (by omega), errsGo, if_neg (fun h => h h1), dupGo, e]
        refine ⟨M', m1, ?_⟩
        obtain ⟨a, b, _, _⟩ := (hM _).some e
        rw [f_u14_8, decide_eq_true (by omega : (i : Int) < (l.length : Int)), cond_true, if_pos ⟨by omega, by omega⟩, Int.toNat_natCast, hf, hv, Option.isSome_some, if_pos rfl, h1]
        show (bif v_u23 k W L l M (l.getD i T2.dflt).1 then _ else _) = _
        rw [hkn, b, wrapS i (by omega), Option.isSome_some, Option.isSome_some, Bool.true_or, Bool.or_true]
        rw [Bool.true_or] at m2
        exact m2
    · rw [drop_cons' l i T2.dflt (by omega), errsGo, if_pos h1]
      refine ⟨M, fun h => absurd h h1, ?_⟩
      rw [f_u14_8, decide_eq_true (by omega : (i : Int) < (l.length : Int)), cond_true, if_pos ⟨by omega, by omega⟩, Int.toNat_natCast, hf, hv, Option.isSome_some, if_pos rfl, show (fitsS (l.take i) W L (l.getD i T2.dflt) != 0) = true from bne_iff_ne.2 h1, cond_true, if_pos h1]
/-- the opening of a register -/
theorem fam_open (k : Nat) (hk : 300000 ≤ k) (l : List Ro) (web : Int × Int) : (checkS l web.1 web.2 ≠ 0 → f_u14 k l web = some (.inl (checkS l web.1 web.2))) ∧ (checkS l web.1 web.2 = 0 → ∃ M, RegOk M l ∧ Wl l ∧ f_u14 k l web = some (.inr (0, web.1, web.2, l, M))) := by
  obtain ⟨W, L⟩ := web
  show (checkS l W L ≠ 0 → f_u14 k l (W, L) = some (.inl (checkS l W L))) ∧ (checkS l W L = 0 → ∃ M, RegOk M l ∧ Wl l ∧ f_u14 k l (W, L) = some (.inr (0, W, L, l, M)))
  unfold f_u14 checkS
  show ((if _ then _ else _ : Int) ≠ 0 → (bif decide (W < (1 : Int)) || decide (W > (12000 : Int)) || decide (L < (0 : Int)) || decide (L > (17179869184 : Int)) then some (.inl 1) else bif _ then _ else f_u14_8 k k l false l (l.length : Int) 0 W L l []) = _) ∧ (_ → ∃ M, RegOk M l ∧ Wl l ∧ (bif decide (W < (1 : Int)) || decide (W > (12000 : Int)) || decide (L < (0 : Int)) || decide (L > (17179869184 : Int)) then some (.inl 1) else bif _ then _ else f_u14_8 k k l false l (l.length : Int) 0 W L l []) = _)
  by_cases h1 : W < 1 ∨ W > 12000 ∨ L < 0 ∨ L > 17179869184
  · rw [if_pos h1, show (decide (W < (1 : Int)) || decide (W > (12000 : Int)) || decide (L < (0 : Int)) || decide (L > (17179869184 : Int))) = true by simp; omega]
    exact ⟨fun _ => rfl, fun h => absurd h (by decide)⟩
  · rw [if_neg h1, show (decide (W < (1 : Int)) || decide (W > (12000 : Int)) || decide (L < (0 : Int)) || decide (L > (17179869184 : Int))) = false by simp; omega, cond_false]
    by_cases h2 : l.length > 512
    · rw [if_pos h2, decide_eq_true (by omega : (l.length : Int) > 512)]
      exact ⟨fun _ => rfl, fun h => absurd h (by decide)⟩
    · rw [if_neg h2, decide_eq_false (by omega : ¬ (l.length : Int) > 512), cond_false]
      obtain ⟨M, m1, m2⟩ := fam_open_8 k hk l W L (by omega) (by omega) l.length 0 k false [] (by omega) (by omega) (by rw [List.take_zero]; exact regOk_nil) (fun r hr => by simp at hr)
      rw [List.take_zero, List.drop_zero, Bool.false_or] at m2
      rw [List.take_zero, List.drop_zero] at m1
      rw [show f_u14_8 k k l false l (l.length : Int) 0 W L l [] = _ from m2]
      by_cases h3 : errsGo W L [] l = 0
      · rw [if_neg (fun h : errsGo W L [] l ≠ 0 => h h3), if_neg (fun h : errsGo W L [] l ≠ 0 => h h3)]
        have ff : ¬ (false = true) := Bool.false_ne_true
        have tt : true = true := rfl
        cases dupGo [] l
        · rw [if_neg ff, if_neg ff]
          cases clashGo [] l
          · rw [if_neg ff, if_neg ff]
            exact ⟨fun h => absurd rfl h, fun _ => ⟨M, (m1 h3).1, (m1 h3).2, rfl⟩⟩
          · rw [if_pos tt, if_pos tt]
            exact ⟨fun _ => rfl, fun h => absurd h (by decide)⟩
        · rw [if_pos tt, if_pos tt]
          exact ⟨fun _ => rfl, fun h => absurd h (by decide)⟩
      · rw [if_pos h3, if_pos h3]
        exact ⟨fun _ => rfl, fun h => absurd h h3⟩
theorem fam_Check_s (k : Nat) (hk : 300000 ≤ k) (l : List Ro) (W L : Int) : f_u4 k l W L = some (checkS l W L) := by
  obtain ⟨h1, h2⟩ := fam_open k hk l (W, L)
  unfold f_u4 vA_u14 vB_u14 v_u14
  by_cases h : checkS l W L = 0
  · obtain ⟨M, _, _, e⟩ := h2 h
    rw [e, h]; rfl
  · have e := h1 h
    rw [e]; rfl
theorem fam_Check_v (k : Nat) (hk : 300000 ≤ k) (l : List Ro) (W L : Int) : v_u4 k l W L = checkS l W L := by
  unfold v_u4; rw [fam_Check_s k hk l W L]; rfl
end Go.AM
namespace Go.AM
open Go Go.Proofs

end Go.AM
namespace Go.AM
open Go Go.IntKind

/-! ### what a valid register says of its rolls -/
theorem look_left {a : List Ro} {id : Int} {q : Ro} (b : List Ro) (h : look a id = some q) : look (a ++ b) id = some q := by
 rw [look_append, h]; rfl
theorem size_left {a : List Ro} {W L id : Int} (b : List Ro) (h : id = 0 ∨ ∃ q, look a id = some q) : sizeS (a ++ b) W L id = sizeS a W L id := by
 unfold sizeS
 by_cases h0 : id = 0
 ·rw [if_pos h0, if_pos h0]
 ·rw [if_neg h0, if_neg h0]
  rcases h with h | ⟨q, h⟩
  ·exact absurd h h0
  ·rw [look_left b h, h]
structure RollOk (l : List Ro) (W L : Int) (r : Ro) : Prop where
 look : look l r.1 = some r
 pos : 1 ≤ r.1
 parent : r.2.1 = 0 ∨ ∃ q, Go.AM.look l r.2.1 = some q
 cut : CutOk r.2.2 (sizeS l W L r.2.1).1 (sizeS l W L r.2.1).2
theorem Okp.ro {W L : Int} {l : List Ro} (h : Okp W L l) : ∀ r ∈ l, RollOk l W L r := by
 induction h with
 | nil => intro r hr; simp at hr
 | snoc p r h f n c ih =>
  intro x hx
  rcases List.mem_append.1 hx with hx | hx
  ·obtain ⟨a, b, c, d⟩ := ih x hx
   refine ⟨look_left _ a, b, ?_, by rw [size_left _ c]; exact d⟩
   rcases c with c | ⟨q, c⟩
   ·exact .inl c
   ·exact .inr ⟨q, look_left _ c⟩
  ·rw [List.mem_singleton] at hx
   subst hx
   obtain ⟨a, b, c, d⟩ := f
   refine ⟨?_, a, ?_, by rw [size_left _ c]; exact d⟩
   ·rw [look_append, n, Option.none_or]; unfold Go.AM.look; simp
   ·rcases c with c | ⟨q, c⟩
    ·exact .inl c
    ·exact .inr ⟨q, look_left _ c⟩
/-- a roll that is cut from the web in n cuts at the most -/
inductive Anc (l : List Ro) : Nat → Int → Prop
 | root (n : Nat) : Anc l n 0
 | step (n : Nat) (id : Int) (r : Ro) (h0 : id ≠ 0) (h : look l id = some r) (a : Anc l n r.2.1) : Anc l (n + 1) id
theorem Anc.mono {l : List Ro} {n m : Nat} {id : Int} (h : Anc l n id) (hm : n ≤ m) : Anc l m id := by
 induction h generalizing m with
 | root n => exact .root m
 | step n id r h0 h a ih =>
  obtain ⟨m, rfl⟩ : ∃ q, m = q + 1 := ⟨m - 1, by omega⟩
  exact .step m id r h0 h (ih (by omega))
theorem Anc.left {l : List Ro} {n : Nat} {id : Int} (h : Anc l n id) (t : List Ro) : Anc (l ++ t) n id := by
 induction h with
 | root n => exact .root n
 | step n id r h0 h a ih => exact .step n id r h0 (look_left t h) ih
theorem Okp.anc {W L : Int} {l : List Ro} (h : Okp W L l) : ∀ r ∈ l, Anc l l.length r.1 := by
 induction h with
 | nil => intro r hr; simp at hr
 | snoc p r h f n c ih =>
  intro x hx
  rw [List.length_append, List.length_singleton]
  rcases List.mem_append.1 hx with hx | hx
  ·exact ((ih x hx).mono (by omega)).left _
  ·rw [List.mem_singleton] at hx
   subst hx
   obtain ⟨a, b, c, d⟩ := f
   refine .step p.length x.1 x (by omega) (by rw [look_append, n, Option.none_or]; unfold look; simp) ?_
   rcases c with c | ⟨q, c⟩
   ·rw [c]; exact .root _
   ·have := (ih q (look_some c).1).left [x]
    rw [(look_some c).2] at this
    exact this
theorem Reg.anc {W L : Int} {l : List Ro} (h : Reg l W L) {id : Int} (hi : id = 0 ∨ ∃ q, look l id = some q) : Anc l 512 id := by
 rcases hi with rfl | ⟨q, e⟩
 ·exact .root _
 ·have := h.ok.anc q (look_some e).1
  rw [(look_some e).2] at this
  exact this.mono h.num
theorem Reg.small {W L : Int} {l : List Ro} (h : Reg l W L) : ∀ (n : Nat) (id : Int), Anc l n id → 0 ≤ (sizeS l W L id).1 ∧ (sizeS l W L id).1 ≤ 12000 ∧ 0 ≤ (sizeS l W L id).2 ∧ (sizeS l W L id).2 ≤ 17179869184 := by
 intro n id ha
 have hw := h.w
 have hl := h.len
 induction ha with
 | root n => unfold sizeS; rw [if_pos rfl]; omega
 | step n id r h0 e a ih =>
  have ro := h.ok.ro r (look_some e).1
  obtain ⟨c1, c2, c3, c4, _⟩ := ro.cut
  have h1 : (sizeS l W L id) = (r.2.2.2.1, lenS r.2.2.2.2.2) := by unfold sizeS; rw [if_neg h0, e]
  rw [h1]
  have h2 := lenS_nonneg c4.goods
  have h3 := c4.tot
  refine ⟨?_, ?_, ?_, ?_⟩
  ·show 0 ≤ r.2.2.2.1; omega
  ·show r.2.2.2.1 ≤ _; omega
  ·show 0 ≤ lenS r.2.2.2.2.2; omega
  ·show lenS r.2.2.2.2.2 ≤ _; omega

/-! ### points -/
def placeS (r : Ro) (p : Pt) : Pt := (r.2.1, (if r.2.2.2.2.1 = true then r.2.2.1 + r.2.2.2.1 - 1 - p.2.1 else r.2.2.1 + p.2.1), imgAt r.2.2.2.2.2 p.2.2)
def onS (l : List Ro) (W L : Int) (p : Pt) : Int :=
 if p.2.1 < 0 ∨ p.2.1 ≥ (sizeS l W L p.1).1 then 20 else if p.2.2 < 0 ∨ p.2.2 ≥ (sizeS l W L p.1).2 then 21 else 0
structure On (l : List Ro) (W L : Int) (p : Pt) : Prop where
 a0 : 0 ≤ p.2.1
 a1 : p.2.1 < (sizeS l W L p.1).1
 b0 : 0 ≤ p.2.2
 b1 : p.2.2 < (sizeS l W L p.1).2
theorem onS_zero {l : List Ro} {W L : Int} {p : Pt} : onS l W L p = 0 ↔ On l W L p := by
 unfold onS
 constructor
 ·intro h
  by_cases h1 : p.2.1 < 0 ∨ p.2.1 ≥ (sizeS l W L p.1).1
  ·rw [if_pos h1] at h; omega
  ·rw [if_neg h1] at h
   by_cases h2 : p.2.2 < 0 ∨ p.2.2 ≥ (sizeS l W L p.1).2
   ·rw [if_pos h2] at h; omega
   ·exact ⟨by omega, by omega, by omega, by omega⟩
 ·rintro ⟨h1, h2, h3, h4⟩
  rw [if_neg (by omega), if_neg (by omega)]
theorem imgAt_mem : ∀ {m : List Rn} {x : Int}, goods m → 0 ≤ x → x < lenS m → ∃ r ∈ m, lo r ≤ imgAt m x ∧ imgAt m x ≤ hi r
 | [], x, _, h0, h1 => by simp [lenS] at h1; omega
 | r :: t, x, ⟨g1, g2⟩, h0, h1 => by
  rw [lenS] at h1
  unfold imgAt
  by_cases h : x < r.2.1
  ·rw [if_pos h]
   exact ⟨r, by simp, img_mem h0 h⟩
  ·rw [if_neg h]
   obtain ⟨q, hq, a⟩ := imgAt_mem g2 (by omega : 0 ≤ x - r.2.1) (by omega)
   exact ⟨q, by simp [hq], a⟩
theorem fits_mem {n : Int} : ∀ {l : List Rn}, fitsIn n l → ∀ r ∈ l, hi r < n
 | [], _, r, h => by simp at h
 | u :: t, ⟨h1, h2⟩, r, hr => by
  rcases List.mem_cons.1 hr with rfl | hr
  ·exact h1
  ·exact fits_mem h2 r hr
theorem On.place {l : List Ro} {W L : Int} {p : Pt} {r : Ro} (hp : p.1 ≠ 0) (h : On l W L p) (e : look l p.1 = some r) (ro : RollOk l W L r) : On l W L (placeS r p) := by
 obtain ⟨a0, a1, b0, b1⟩ := h
 obtain ⟨c1, c2, c3, c4, c5, c6, c7⟩ := ro.cut
 have h1 : (sizeS l W L p.1) = (r.2.2.2.1, lenS r.2.2.2.2.2) := by unfold sizeS; rw [if_neg hp, e]
 rw [h1] at a1 b1
 have a1 : p.2.1 < r.2.2.2.1 := a1
 have b1 : p.2.2 < lenS r.2.2.2.2.2 := b1
 obtain ⟨x, hx, i1, i2⟩ := imgAt_mem c4.goods b0 b1
 have h2 := fits_mem c7 x hx
 obtain ⟨l1, l2, l3, l4⟩ := (c4.goods.mem x hx).lohi
 refine ⟨?_, ?_, ?_, ?_⟩
 ·show 0 ≤ (if r.2.2.2.2.1 = true then _ else _ : Int)
  split <;> omega
 ·show (if r.2.2.2.2.1 = true then _ else _ : Int) < (sizeS l W L r.2.1).1
  split <;> omega
 ·show 0 ≤ imgAt _ _; omega
 ·show imgAt _ _ < (sizeS l W L r.2.1).2; omega

/-- the place of a point in the web -/
def webS (l : List Ro) : Nat → Pt → Pt
 | 0, p => p
 | n + 1, p => if p.1 = 0 then p else match look l p.1 with
  | none => p
  | some r => webS l n (placeS r p)
end Go.AM
namespace Go.AM
open Go Go.Proofs Go.IntKind
set_option linter.unusedVariables false
noncomputable section
abbrev RA_u13 : Type := Int
def resA_u13 (r : RA_u13) : AV := .tup [.r (.v (Value.pointer none)), .r (.v (.int .i64 r))]
def boA_u13 (l_ : List (T2).T) (web_ : T5.T) (id_ : Int) (r : RA_u13) : List (Nat × Blk) := []
abbrev RB_u13 : Type := Int × Int × Int × List (T2).T × (List ((I).T × (I).T))
def resB_u13 (r : RB_u13) : AV := .tup [.ptr 0 0 0, .r (.v (.int .i64 r.1))]
def boB_u13 (l_ : List (T2).T) (web_ : T5.T) (id_ : Int) (r : RB_u13) : List (Nat × Blk) := [(0, .var 71 [.r (.v (.int .i64 r.2.1)), .r (.v (.int .i64 r.2.2.1)), .r (.ro T2 r.2.2.2.1), .own 1 0]), (0, .map false I I r.2.2.2.2)]
abbrev R_u13 : Type := RA_u13 ⊕ RB_u13
def res_u13 (r : R_u13) : AV := match r with
 | .inl a => resA_u13 a
 | .inr a => resB_u13 a
def bo_u13 (l_ : List (T2).T) (web_ : T5.T) (id_ : Int) (r : R_u13) : List (Nat × Blk) := match r with
 | .inl a => boA_u13 l_ web_ id_ a
 | .inr a => boB_u13 l_ web_ id_ a
def args_u13 (l_ : List (T2).T) (web_ : T5.T) (id_ : Int) : List AV := [.r (.ro T2 l_), .agg (rvs (enc T5 web_)), .r (.v (.int .i64 id_))]
def bin_u13 (l_ : List (T2).T) (web_ : T5.T) (id_ : Int) : List Blk := []
def f_u13 (k : Nat) (l_ : List (T2).T) (web_ : T5.T) (id_ : Int) : Option R_u13 :=
 bif (Sum.isLeft (v_u14 k l_ web_)) then
 if ((f_u14 k l_ web_).isSome = true) then
 bif (vA_u14 k l_ web_ == (0 : Int) && id_ != (0 : Int)) then
 none
 else
 if ((vA_u14 k l_ web_ == (0 : Int) && id_ != (0 : Int)) = false) then
 some ((.inl (vA_u14 k l_ web_)))
 else none
 else none
 else
 if ((f_u14 k l_ web_).isSome = true) then
 bif ((vB_u14 k l_ web_).1 == (0 : Int) && id_ != (0 : Int)) then
 if (((vB_u14 k l_ web_).1 == (0 : Int) && id_ != (0 : Int)) = true) ∧ ((f_u23 k (vB_u14 k l_ web_).2.1 (vB_u14 k l_ web_).2.2.1 (vB_u14 k l_ web_).2.2.2.1 (vB_u14 k l_ web_).2.2.2.2 id_).isSome = true) then
 bif (true && (!v_u23 k (vB_u14 k l_ web_).2.1 (vB_u14 k l_ web_).2.2.1 (vB_u14 k l_ web_).2.2.2.1 (vB_u14 k l_ web_).2.2.2.2 id_)) then
 some ((.inl 7))
 else
 some ((.inr (((vB_u14 k l_ web_).1, (vB_u14 k l_ web_).2.1, (vB_u14 k l_ web_).2.2.1, (vB_u14 k l_ web_).2.2.2.1, (vB_u14 k l_ web_).2.2.2.2))))
 else none
 else
 if (((vB_u14 k l_ web_).1 == (0 : Int) && id_ != (0 : Int)) = false) then
 some ((.inr (((vB_u14 k l_ web_).1, (vB_u14 k l_ web_).2.1, (vB_u14 k l_ web_).2.2.1, (vB_u14 k l_ web_).2.2.2.1, (vB_u14 k l_ web_).2.2.2.2))))
 else none
 else none
def v_u13 (k : Nat) (l_ : List (T2).T) (web_ : T5.T) (id_ : Int) : R_u13 := (f_u13 k l_ web_ id_).getD (.inl 0)
def vA_u13 (k : Nat) (l_ : List (T2).T) (web_ : T5.T) (id_ : Int) : RA_u13 := lft 0 (v_u13 k l_ web_ id_)
def vB_u13 (k : Nat) (l_ : List (T2).T) (web_ : T5.T) (id_ : Int) : RB_u13 := rgt ((0, 0, 0, [], [])) (v_u13 k l_ web_ id_)
def K_u13 (k : Nat) : Calld := ⟨fun g xs => match g with
 | 33 => match xs with
  | [.ptr _ _ _, _] => some [true, false]
  | _ => none
 | 17 => match xs with
  | [_, _] => some [false, false]
  | _ => none
 | _ => none, fun g xs bs => match g with
 | 33 => match xs, bs with
  | [.ptr 0 0 0, .r (.v (.int .i64 id_))], [.var 71 [.r (.v (.int .i64 g_0)), .r (.v (.int .i64 g_1)), .r (.ro tg_2_ qg_2), .own 1 0], .map false kg_3_ tg_3_ qg_3] => (castL tg_2_ T2 qg_2).bind fun g_2 => (castM kg_3_ tg_3_ I I qg_3).bind fun g_3 => some (.one (res_u23 (v_u23 k g_0 g_1 g_2 g_3 id_), bo_u23 g_0 g_1 g_2 g_3 id_ (v_u23 k g_0 g_1 g_2 g_3 id_)))
  | _, _ => none
 | 17 => match xs, bs with
  | [.r (.ro tl__ ql_), .agg qweb_], [] => (castL tl__ T2 ql_).bind fun l_ => (decS [] T5 qweb_).bind fun web_ => some (.two (v_u14 k l_ web_).isLeft (resA_u14 (vA_u14 k l_ web_), boA_u14 l_ web_ (vA_u14 k l_ web_)) (resB_u14 (vB_u14 k l_ web_), boB_u14 l_ web_ (vB_u14 k l_ web_)))
  | _, _ => none
 | _ => none⟩
theorem of_u13 (k : Nat) (l_ : List (T2).T) (web_ : T5.T) (id_ : Int) (r : R_u13) (h : f_u13 k l_ web_ id_ = some r) : CC Try.prog 19 (args_u13 l_ web_ id_) (bin_u13 l_ web_ id_) (res_u13 r) (bo_u13 l_ web_ id_ r) := by
 refine CC.of (fn := Try.f19) (by kernel_rfl) (by kernel_rfl) (by kernel_rfl) (by kernel_rfl) ?_
 unfold f_u13 at h
 refine Ev.tree hm (R := Rt) (K := (K_u13 k)) (l := []) (C := []) (E := [.autoB [6, 7] true []]) (n := 1000) (T := .test ((Sum.isLeft (v_u14 k l_ web_))) (.need [CC Try.prog 17 (args_u14 l_ web_) (bin_u14 l_ web_) (resA_u14 (vA_u14 k l_ web_)) (boA_u14 l_ web_ (vA_u14 k l_ web_))] (.test ((vA_u14 k l_ web_ == (0 : Int) && id_ != (0 : Int))) (.stuck 2009) (.need [(vA_u14 k l_ web_ == (0 : Int) && id_ != (0 : Int)) = false] (.test (false) (.leaf (.tup [.r (.v (Value.pointer none)), .r (.v (.int .i64 7))]) []) (.leaf (resA_u13 (vA_u14 k l_ web_)) (boA_u13 l_ web_ id_ (vA_u14 k l_ web_))))))) (.need [CC Try.prog 17 (args_u14 l_ web_) (bin_u14 l_ web_) (resB_u14 (vB_u14 k l_ web_)) (boB_u14 l_ web_ (vB_u14 k l_ web_))] (.test (((vB_u14 k l_ web_).1 == (0 : Int) && id_ != (0 : Int))) (.need [((vB_u14 k l_ web_).1 == (0 : Int) && id_ != (0 : Int)) = true, CC Try.prog 33 (args_u23 (vB_u14 k l_ web_).2.1 (vB_u14 k l_ web_).2.2.1 (vB_u14 k l_ web_).2.2.2.1 (vB_u14 k l_ web_).2.2.2.2 id_) (bin_u23 (vB_u14 k l_ web_).2.1 (vB_u14 k l_ web_).2.2.1 (vB_u14 k l_ web_).2.2.2.1 (vB_u14 k l_ web_).2.2.2.2 id_) (res_u23 (v_u23 k (vB_u14 k l_ web_).2.1 (vB_u14 k l_ web_).2.2.1 (vB_u14 k l_ web_).2.2.2.1 (vB_u14 k l_ web_).2.2.2.2 id_)) (bo_u23 (vB_u14 k l_ web_).2.1 (vB_u14 k l_ web_).2.2.1 (vB_u14 k l_ web_).2.2.2.1 (vB_u14 k l_ web_).2.2.2.2 id_ (v_u23 k (vB_u14 k l_ web_).2.1 (vB_u14 k l_ web_).2.2.1 (vB_u14 k l_ web_).2.2.2.1 (vB_u14 k l_ web_).2.2.2.2 id_))] (.test ((true && (!v_u23 k (vB_u14 k l_ web_).2.1 (vB_u14 k l_ web_).2.2.1 (vB_u14 k l_ web_).2.2.2.1 (vB_u14 k l_ web_).2.2.2.2 id_))) (.leaf (resA_u13 7) (boA_u13 l_ web_ id_ 7)) (.leaf (resB_u13 (((vB_u14 k l_ web_).1, (vB_u14 k l_ web_).2.1, (vB_u14 k l_ web_).2.2.1, (vB_u14 k l_ web_).2.2.2.1, (vB_u14 k l_ web_).2.2.2.2))) (boB_u13 l_ web_ id_ (((vB_u14 k l_ web_).1, (vB_u14 k l_ web_).2.1, (vB_u14 k l_ web_).2.2.1, (vB_u14 k l_ web_).2.2.2.1, (vB_u14 k l_ web_).2.2.2.2)))))) (.need [((vB_u14 k l_ web_).1 == (0 : Int) && id_ != (0 : Int)) = false] (.test (false) (.leaf (.tup [.r (.v (Value.pointer none)), .r (.v (.int .i64 7))]) []) (.leaf (resB_u13 (((vB_u14 k l_ web_).1, (vB_u14 k l_ web_).2.1, (vB_u14 k l_ web_).2.2.1, (vB_u14 k l_ web_).2.2.2.1, (vB_u14 k l_ web_).2.2.2.2))) (boB_u13 l_ web_ id_ (((vB_u14 k l_ web_).1, (vB_u14 k l_ web_).2.1, (vB_u14 k l_ web_).2.2.1, (vB_u14 k l_ web_).2.2.2.1, (vB_u14 k l_ web_).2.2.2.2))))))))) (by kernel_rfl) ?_
 refine ⟨fun c => ?_, fun c => ?_⟩
 ·rw [cond_t (show ((Sum.isLeft (v_u14 k l_ web_))) = true from c)] at h
  by_cases q : ((f_u14 k l_ web_).isSome = true)
  ·rw [if_pos q] at h
   refine ⟨(conjC (ccA_u14 k l_ web_ q (by assumption)) conj0), ?_⟩
   refine ⟨fun c => ?_, fun c => ?_⟩
   ·rw [cond_t (show ((vA_u14 k l_ web_ == (0 : Int) && id_ != (0 : Int))) = true from c)] at h
    cases h
   ·rw [cond_f (show ((vA_u14 k l_ web_ == (0 : Int) && id_ != (0 : Int))) = false from c)] at h
    by_cases q : ((vA_u14 k l_ web_ == (0 : Int) && id_ != (0 : Int)) = false)
    ·rw [if_pos q] at h
     refine ⟨(conjC q conj0), ?_⟩
     refine ⟨fun c => ?_, fun c => ?_⟩
     ·cases c
     cases h; exact ⟨rfl, rfl⟩
    ·rw [if_neg q] at h; cases h
  ·rw [if_neg q] at h; cases h
 ·rw [cond_f (show ((Sum.isLeft (v_u14 k l_ web_))) = false from c)] at h
  by_cases q : ((f_u14 k l_ web_).isSome = true)
  ·rw [if_pos q] at h
   refine ⟨(conjC (ccB_u14 k l_ web_ q (by assumption)) conj0), ?_⟩
   refine ⟨fun c => ?_, fun c => ?_⟩
   ·rw [cond_t (show (((vB_u14 k l_ web_).1 == (0 : Int) && id_ != (0 : Int))) = true from c)] at h
    by_cases q : (((vB_u14 k l_ web_).1 == (0 : Int) && id_ != (0 : Int)) = true) ∧ ((f_u23 k (vB_u14 k l_ web_).2.1 (vB_u14 k l_ web_).2.2.1 (vB_u14 k l_ web_).2.2.2.1 (vB_u14 k l_ web_).2.2.2.2 id_).isSome = true)
    ·rw [if_pos q] at h
     refine ⟨(conjC q.1 (conjC (cc_u23 k (vB_u14 k l_ web_).2.1 (vB_u14 k l_ web_).2.2.1 (vB_u14 k l_ web_).2.2.2.1 (vB_u14 k l_ web_).2.2.2.2 id_ q.2) conj0)), ?_⟩
     refine ⟨fun c => ?_, fun c => ?_⟩
     ·rw [cond_t (show ((true && (!v_u23 k (vB_u14 k l_ web_).2.1 (vB_u14 k l_ web_).2.2.1 (vB_u14 k l_ web_).2.2.2.1 (vB_u14 k l_ web_).2.2.2.2 id_))) = true from c)] at h
      cases h; exact ⟨rfl, rfl⟩
     ·rw [cond_f (show ((true && (!v_u23 k (vB_u14 k l_ web_).2.1 (vB_u14 k l_ web_).2.2.1 (vB_u14 k l_ web_).2.2.2.1 (vB_u14 k l_ web_).2.2.2.2 id_))) = false from c)] at h
      cases h; exact ⟨rfl, rfl⟩
    ·rw [if_neg q] at h; cases h
   ·rw [cond_f (show (((vB_u14 k l_ web_).1 == (0 : Int) && id_ != (0 : Int))) = false from c)] at h
    by_cases q : (((vB_u14 k l_ web_).1 == (0 : Int) && id_ != (0 : Int)) = false)
    ·rw [if_pos q] at h
     refine ⟨(conjC q conj0), ?_⟩
     refine ⟨fun c => ?_, fun c => ?_⟩
     ·cases c
     cases h; exact ⟨rfl, rfl⟩
    ·rw [if_neg q] at h; cases h
  ·rw [if_neg q] at h; cases h
theorem cc_u13 (k : Nat) (l_ : List (T2).T) (web_ : T5.T) (id_ : Int) (h : (f_u13 k l_ web_ id_).isSome = true) : CC Try.prog 19 (args_u13 l_ web_ id_) (bin_u13 l_ web_ id_) (res_u13 (v_u13 k l_ web_ id_)) (bo_u13 l_ web_ id_ (v_u13 k l_ web_ id_)) := by
 cases e : f_u13 k l_ web_ id_ with
 | none => rw [e] at h; cases h
 | some r => rw [show v_u13 k l_ web_ id_ = r by simp [v_u13, e]]; exact of_u13 k l_ web_ id_ r e
theorem ccA_u13 (k : Nat) (l_ : List (T2).T) (web_ : T5.T) (id_ : Int) (h : (f_u13 k l_ web_ id_).isSome = true) (hb : (v_u13 k l_ web_ id_).isLeft = true) : CC Try.prog 19 (args_u13 l_ web_ id_) (bin_u13 l_ web_ id_) (resA_u13 (vA_u13 k l_ web_ id_)) (boA_u13 l_ web_ id_ (vA_u13 k l_ web_ id_)) := by
 have h1 := cc_u13 k l_ web_ id_ h
 unfold vA_u13
 cases e : v_u13 k l_ web_ id_ with
 | inl a => rw [e] at h1 hb; exact h1
 | inr a => rw [e] at h1 hb; cases hb
theorem ccB_u13 (k : Nat) (l_ : List (T2).T) (web_ : T5.T) (id_ : Int) (h : (f_u13 k l_ web_ id_).isSome = true) (hb : (v_u13 k l_ web_ id_).isLeft = false) : CC Try.prog 19 (args_u13 l_ web_ id_) (bin_u13 l_ web_ id_) (resB_u13 (vB_u13 k l_ web_ id_)) (boB_u13 l_ web_ id_ (vB_u13 k l_ web_ id_)) := by
 have h1 := cc_u13 k l_ web_ id_ h
 unfold vB_u13
 cases e : v_u13 k l_ web_ id_ with
 | inl a => rw [e] at h1 hb; cases hb
 | inr a => rw [e] at h1 hb; exact h1

end
end Go.AM
namespace Go.AM
open Go Go.Proofs Go.IntKind
set_option linter.unusedVariables false
noncomputable section
abbrev R_u25 : Type := Int
def res_u25 (r : R_u25) : AV := .r (.v (.int .i64 r))
def bo_u25 (g_0 : Int) (g_1 : Int) (g_2 : List (T2).T) (g_3 : List ((I).T × (I).T)) (p_ : T4.T) (r : R_u25) : List (Nat × Blk) := [(0, .var 71 [.r (.v (.int .i64 g_0)), .r (.v (.int .i64 g_1)), .r (.ro T2 g_2), .own 1 0]), (0, .map false I I g_3)]
def args_u25 (g_0 : Int) (g_1 : Int) (g_2 : List (T2).T) (g_3 : List ((I).T × (I).T)) (p_ : T4.T) : List AV := [.ptr 0 0 0, .agg (rvs (enc T4 p_))]
def bin_u25 (g_0 : Int) (g_1 : Int) (g_2 : List (T2).T) (g_3 : List ((I).T × (I).T)) (p_ : T4.T) : List Blk := [.var 71 [.r (.v (.int .i64 g_0)), .r (.v (.int .i64 g_1)), .r (.ro T2 g_2), .own 1 0], .map false I I g_3]
def f_u25 (k : Nat) (g_0 : Int) (g_1 : Int) (g_2 : List (T2).T) (g_3 : List ((I).T × (I).T)) (p_ : T4.T) : Option R_u25 :=
 if ((f_u26 k g_0 g_1 g_2 g_3 p_.1).isSome = true) then
 bif (decide (p_.2.1 < (0 : Int)) || decide (p_.2.1 ≥ (v_u26 k g_0 g_1 g_2 g_3 p_.1).1)) then
 some 20
 else
 bif (decide (p_.2.2 < (0 : Int)) || decide (p_.2.2 ≥ (v_u26 k g_0 g_1 g_2 g_3 p_.1).2)) then
 some 21
 else
 some 0
 else none
def v_u25 (k : Nat) (g_0 : Int) (g_1 : Int) (g_2 : List (T2).T) (g_3 : List ((I).T × (I).T)) (p_ : T4.T) : R_u25 := (f_u25 k g_0 g_1 g_2 g_3 p_).getD 0
def K_u25 (k : Nat) : Calld := ⟨fun g xs => match g with
 | 28 => match xs with
  | [.ptr _ _ _, _] => some [true, false]
  | _ => none
 | _ => none, fun g xs bs => match g with
 | 28 => match xs, bs with
  | [.ptr 0 0 0, .r (.v (.int .i64 id_))], [.var 71 [.r (.v (.int .i64 g_0)), .r (.v (.int .i64 g_1)), .r (.ro tg_2_ qg_2), .own 1 0], .map false kg_3_ tg_3_ qg_3] => (castL tg_2_ T2 qg_2).bind fun g_2 => (castM kg_3_ tg_3_ I I qg_3).bind fun g_3 => some (.one (res_u26 (v_u26 k g_0 g_1 g_2 g_3 id_), bo_u26 g_0 g_1 g_2 g_3 id_ (v_u26 k g_0 g_1 g_2 g_3 id_)))
  | _, _ => none
 | _ => none⟩
theorem of_u25 (k : Nat) (g_0 : Int) (g_1 : Int) (g_2 : List (T2).T) (g_3 : List ((I).T × (I).T)) (p_ : T4.T) (r : R_u25) (h : f_u25 k g_0 g_1 g_2 g_3 p_ = some r) : CC Try.prog 20 (args_u25 g_0 g_1 g_2 g_3 p_) (bin_u25 g_0 g_1 g_2 g_3 p_) (res_u25 r) (bo_u25 g_0 g_1 g_2 g_3 p_ r) := by
 refine CC.of (fn := Try.f20) (by kernel_rfl) (by kernel_rfl) (by kernel_rfl) (by kernel_rfl) ?_
 unfold f_u25 at h
 refine Ev.tree hm (R := Rt) (K := (K_u25 k)) (l := []) (C := []) (E := [.autoB [4] true []]) (n := 1000) (T := .need [CC Try.prog 28 (args_u26 g_0 g_1 g_2 g_3 p_.1) (bin_u26 g_0 g_1 g_2 g_3 p_.1) (res_u26 (v_u26 k g_0 g_1 g_2 g_3 p_.1)) (bo_u26 g_0 g_1 g_2 g_3 p_.1 (v_u26 k g_0 g_1 g_2 g_3 p_.1))] (.test ((decide (p_.2.1 < (0 : Int)) || decide (p_.2.1 ≥ (v_u26 k g_0 g_1 g_2 g_3 p_.1).1))) (.leaf (res_u25 20) (bo_u25 g_0 g_1 g_2 g_3 p_ 20)) (.test ((decide (p_.2.2 < (0 : Int)) || decide (p_.2.2 ≥ (v_u26 k g_0 g_1 g_2 g_3 p_.1).2))) (.leaf (res_u25 21) (bo_u25 g_0 g_1 g_2 g_3 p_ 21)) (.leaf (res_u25 0) (bo_u25 g_0 g_1 g_2 g_3 p_ 0))))) (by kernel_rfl) ?_
 by_cases q : ((f_u26 k g_0 g_1 g_2 g_3 p_.1).isSome = true)
 ·rw [if_pos q] at h
  refine ⟨(conjC (cc_u26 k g_0 g_1 g_2 g_3 p_.1 q) conj0), ?_⟩
  refine ⟨fun c => ?_, fun c => ?_⟩
  ·rw [cond_t (show ((decide (p_.2.1 < (0 : Int)) || decide (p_.2.1 ≥ (v_u26 k g_0 g_1 g_2 g_3 p_.1).1))) = true from c)] at h
   cases h; exact ⟨rfl, rfl⟩
  ·rw [cond_f (show ((decide (p_.2.1 < (0 : Int)) || decide (p_.2.1 ≥ (v_u26 k g_0 g_1 g_2 g_3 p_.1).1))) = false from c)] at h
   refine ⟨fun c => ?_, fun c => ?_⟩
   ·rw [cond_t (show ((decide (p_.2.2 < (0 : Int)) || decide (p_.2.2 ≥ (v_u26 k g_0 g_1 g_2 g_3 p_.1).2))) = true from c)] at h
    cases h; exact ⟨rfl, rfl⟩
   ·rw [cond_f (show ((decide (p_.2.2 < (0 : Int)) || decide (p_.2.2 ≥ (v_u26 k g_0 g_1 g_2 g_3 p_.1).2))) = false from c)] at h
    cases h; exact ⟨rfl, rfl⟩
 ·rw [if_neg q] at h; cases h
theorem cc_u25 (k : Nat) (g_0 : Int) (g_1 : Int) (g_2 : List (T2).T) (g_3 : List ((I).T × (I).T)) (p_ : T4.T) (h : (f_u25 k g_0 g_1 g_2 g_3 p_).isSome = true) : CC Try.prog 20 (args_u25 g_0 g_1 g_2 g_3 p_) (bin_u25 g_0 g_1 g_2 g_3 p_) (res_u25 (v_u25 k g_0 g_1 g_2 g_3 p_)) (bo_u25 g_0 g_1 g_2 g_3 p_ (v_u25 k g_0 g_1 g_2 g_3 p_)) := by
 cases e : f_u25 k g_0 g_1 g_2 g_3 p_ with
 | none => rw [e] at h; cases h
 | some r => rw [show v_u25 k g_0 g_1 g_2 g_3 p_ = r by simp [v_u25, e]]; exact of_u25 k g_0 g_1 g_2 g_3 p_ r e

end
end Go.AM
namespace Go.AM
open Go Go.Proofs Go.IntKind
set_option linter.unusedVariables false
noncomputable section
abbrev R_u62 : Type := Bool
def res_u62 (r : R_u62) : AV := .r (.v (.bool r))
def bo_u62 (s_ : T8.T) (width_ : Int) (r : R_u62) : List (Nat × Blk) := []
def args_u62 (s_ : T8.T) (width_ : Int) : List AV := [.agg (rvs (enc T8 s_)), .r (.v (.int .i64 width_))]
def bin_u62 (s_ : T8.T) (width_ : Int) : List Blk := []
def f_u62 (k : Nat) (s_ : T8.T) (width_ : Int) : Option R_u62 :=
 some (decide (s_.1 ≥ 0) && decide (s_.2 ≥ 1) && decide (s_.1 ≤ width_) && decide (s_.2 ≤ i64.wrap (width_ - s_.1)))
def v_u62 (k : Nat) (s_ : T8.T) (width_ : Int) : R_u62 := (f_u62 k s_ width_).getD false
def K_u62 (k : Nat) : Calld := ⟨fun g xs => match g with
 | _ => none, fun g xs bs => match g with
 | _ => none⟩
theorem of_u62 (k : Nat) (s_ : T8.T) (width_ : Int) (r : R_u62) (h : f_u62 k s_ width_ = some r) : CC Try.prog 51 (args_u62 s_ width_) (bin_u62 s_ width_) (res_u62 r) (bo_u62 s_ width_ r) := by
 refine CC.of (fn := Try.f51) (by kernel_rfl) (by kernel_rfl) (by kernel_rfl) (by kernel_rfl) ?_
 unfold f_u62 at h
 refine Ev.tree hm (R := Rt) (K := (K_u62 k)) (l := []) (C := []) (E := [.autoB [4] true []]) (n := 1000) (T := .leaf (res_u62 (decide (s_.1 ≥ 0) && decide (s_.2 ≥ 1) && decide (s_.1 ≤ width_) && decide (s_.2 ≤ i64.wrap (width_ - s_.1)))) (bo_u62 s_ width_ (decide (s_.1 ≥ 0) && decide (s_.2 ≥ 1) && decide (s_.1 ≤ width_) && decide (s_.2 ≤ i64.wrap (width_ - s_.1))))) (by kernel_rfl) ?_
 cases h; exact ⟨rfl, rfl⟩
theorem cc_u62 (k : Nat) (s_ : T8.T) (width_ : Int) (h : (f_u62 k s_ width_).isSome = true) : CC Try.prog 51 (args_u62 s_ width_) (bin_u62 s_ width_) (res_u62 (v_u62 k s_ width_)) (bo_u62 s_ width_ (v_u62 k s_ width_)) := by
 cases e : f_u62 k s_ width_ with
 | none => rw [e] at h; cases h
 | some r => rw [show v_u62 k s_ width_ = r by simp [v_u62, e]]; exact of_u62 k s_ width_ r e

end
end Go.AM
namespace Go.AM
open Go Go.Proofs Go.IntKind
set_option linter.unusedVariables false
noncomputable section
abbrev R_u54 : Type := List (T0).T
def res_u54 (r : R_u54) : AV := .own 0 0
def bo_u54 (s_ : List (T0).T) (r : R_u54) : List (Nat × Blk) := [(0, .row 57 T0 r)]
def args_u54 (s_ : List (T0).T) : List AV := [.r (.ro T0 s_)]
def bin_u54 (s_ : List (T0).T) : List Blk := []
def f_u54 (k : Nat) (s_ : List (T0).T) : Option R_u54 := if s_.length * 24 ≤ 140737488355328 then some s_ else none
def v_u54 (k : Nat) (s_ : List (T0).T) : R_u54 := (f_u54 k s_).getD []
theorem of_u54 (k : Nat) (s_ : List (T0).T) (r : R_u54) (h : f_u54 k s_ = some r) : CC Try.prog 52 (args_u54 s_) (bin_u54 s_) (res_u54 r) (bo_u54 s_ r) := by
 unfold f_u54 at h
 by_cases q : s_.length * 24 ≤ 140737488355328
 ·rw [if_pos q] at h
  cases h
  exact cc_clone' (τ := T0) Try.clone_run (by kernel_rfl) Try.sizeOf57 ⟨Try.f52, _, Try.func52, rfl, by kernel_rfl⟩ s_ q
 ·rw [if_neg q] at h; cases h
theorem cc_u54 (k : Nat) (s_ : List (T0).T) (h : (f_u54 k s_).isSome = true) : CC Try.prog 52 (args_u54 s_) (bin_u54 s_) (res_u54 (v_u54 k s_)) (bo_u54 s_ (v_u54 k s_)) := by
 cases e : f_u54 k s_ with
 | none => rw [e] at h; cases h
 | some r => rw [show v_u54 k s_ = r by simp [v_u54, e]]; exact of_u54 k s_ r e

end
end Go.AM
namespace Go.AM
open Go Go.Proofs Go.IntKind
set_option linter.unusedVariables false
noncomputable section
abbrev RA_u61 : Type := Int × Int × Bool × Int
def resA_u61 (r : RA_u61) : AV := .tup [.agg [.r (.v (.int .i64 r.1)), .r (.v (.int .i64 r.2.1)), .r (.v (.bool r.2.2.1)), .r (.v (Value.slice none 0 0))], .r (.v (.int .i64 r.2.2.2))]
def boA_u61 (c_ : T1.T) (r : RA_u61) : List (Nat × Blk) := []
abbrev RB_u61 : Type := Int × Int × Bool × Int × List (T0).T
def resB_u61 (r : RB_u61) : AV := .tup [.agg [.r (.v (.int .i64 r.1)), .r (.v (.int .i64 r.2.1)), .r (.v (.bool r.2.2.1)), .own 0 0], .r (.v (.int .i64 r.2.2.2.1))]
def boB_u61 (c_ : T1.T) (r : RB_u61) : List (Nat × Blk) := [(0, .row 57 T0 r.2.2.2.2)]
abbrev R_u61 : Type := RA_u61 ⊕ RB_u61
def res_u61 (r : R_u61) : AV := match r with
 | .inl a => resA_u61 a
 | .inr a => resB_u61 a
def bo_u61 (c_ : T1.T) (r : R_u61) : List (Nat × Blk) := match r with
 | .inl a => boA_u61 c_ a
 | .inr a => boB_u61 c_ a
def args_u61 (c_ : T1.T) : List AV := [.agg (rvs (enc T1 c_))]
def bin_u61 (c_ : T1.T) : List Blk := []
def f_u61 (k : Nat) (c_ : T1.T) : Option R_u61 :=
 if ((f_u62 k (c_.1, c_.2.1) 12000).isSome = true) then
 bif (!v_u62 k (c_.1, c_.2.1) (12000 : Int)) then
 some ((.inl ((0, 0, false, 1))))
 else
 if ((f_u31 k c_.2.2.2).isSome = true) then
 bif (v_u31 k c_.2.2.2 != (0 : Int)) then
 some ((.inl ((0, 0, false, v_u31 k c_.2.2.2))))
 else
 if ((f_u54 k c_.2.2.2).isSome = true) then
 some ((.inr ((c_.1, c_.2.1, !c_.2.2.1, 0, v_u54 k c_.2.2.2))))
 else none
 else none
 else none
def v_u61 (k : Nat) (c_ : T1.T) : R_u61 := (f_u61 k c_).getD (.inl ((0, 0, false, 0)))
def vA_u61 (k : Nat) (c_ : T1.T) : RA_u61 := lft ((0, 0, false, 0)) (v_u61 k c_)
def vB_u61 (k : Nat) (c_ : T1.T) : RB_u61 := rgt ((0, 0, false, 0, [])) (v_u61 k c_)
def K_u61 (k : Nat) : Calld := ⟨fun g xs => match g with
 | 24 => match xs with
  | [_] => some [false]
  | _ => none
 | 51 => match xs with
  | [_, _] => some [false, false]
  | _ => none
 | 52 => match xs with
  | [_] => some [false]
  | _ => none
 | _ => none, fun g xs bs => match g with
 | 24 => match xs, bs with
  | [.r (.ro tm__ qm_)], [] => (castL tm__ T0 qm_).bind fun m_ => some (.one (res_u31 (v_u31 k m_), bo_u31 m_ (v_u31 k m_)))
  | _, _ => none
 | 51 => match xs, bs with
  | [.agg qs_, .r (.v (.int .i64 width_))], [] => (decS [] T8 qs_).bind fun s_ => some (.one (res_u62 (v_u62 k s_ width_), bo_u62 s_ width_ (v_u62 k s_ width_)))
  | _, _ => none
 | 52 => match xs, bs with
  | [.r (.ro ts__ qs_)], [] => (castL ts__ T0 qs_).bind fun s_ => some (.one (res_u54 (v_u54 k s_), bo_u54 s_ (v_u54 k s_)))
  | _, _ => none
 | _ => none⟩
theorem of_u61 (k : Nat) (c_ : T1.T) (r : R_u61) (h : f_u61 k c_ = some r) : CC Try.prog 43 (args_u61 c_) (bin_u61 c_) (res_u61 r) (bo_u61 c_ r) := by
 refine CC.of (fn := Try.f43) (by kernel_rfl) (by kernel_rfl) (by kernel_rfl) (by kernel_rfl) ?_
 unfold f_u61 at h
 refine Ev.tree hm (R := Rt) (K := (K_u61 k)) (l := []) (C := []) (E := [.autoB [2, 3] true []]) (n := 1000) (T := .need [CC Try.prog 51 (args_u62 (c_.1, c_.2.1) 12000) (bin_u62 (c_.1, c_.2.1) 12000) (res_u62 (v_u62 k (c_.1, c_.2.1) 12000)) (bo_u62 (c_.1, c_.2.1) 12000 (v_u62 k (c_.1, c_.2.1) 12000))] (.test ((!v_u62 k (c_.1, c_.2.1) (12000 : Int))) (.leaf (resA_u61 ((0, 0, false, 1))) (boA_u61 c_ ((0, 0, false, 1)))) (.need [CC Try.prog 24 (args_u31 c_.2.2.2) (bin_u31 c_.2.2.2) (res_u31 (v_u31 k c_.2.2.2)) (bo_u31 c_.2.2.2 (v_u31 k c_.2.2.2))] (.test ((v_u31 k c_.2.2.2 != (0 : Int))) (.leaf (resA_u61 ((0, 0, false, v_u31 k c_.2.2.2))) (boA_u61 c_ ((0, 0, false, v_u31 k c_.2.2.2)))) (.need [CC Try.prog 52 (args_u54 c_.2.2.2) (bin_u54 c_.2.2.2) (res_u54 (v_u54 k c_.2.2.2)) (bo_u54 c_.2.2.2 (v_u54 k c_.2.2.2))] (.leaf (resB_u61 ((c_.1, c_.2.1, !c_.2.2.1, 0, v_u54 k c_.2.2.2))) (boB_u61 c_ ((c_.1, c_.2.1, !c_.2.2.1, 0, v_u54 k c_.2.2.2))))))))) (by kernel_rfl) ?_
 by_cases q : ((f_u62 k (c_.1, c_.2.1) 12000).isSome = true)
 ·rw [if_pos q] at h
  refine ⟨(conjC (cc_u62 k (c_.1, c_.2.1) 12000 q) conj0), ?_⟩
  refine ⟨fun c => ?_, fun c => ?_⟩
  ·rw [cond_t (show ((!v_u62 k (c_.1, c_.2.1) (12000 : Int))) = true from c)] at h
   cases h; exact ⟨rfl, rfl⟩
  ·rw [cond_f (show ((!v_u62 k (c_.1, c_.2.1) (12000 : Int))) = false from c)] at h
   by_cases q : ((f_u31 k c_.2.2.2).isSome = true)
   ·rw [if_pos q] at h
    refine ⟨(conjC (cc_u31 k c_.2.2.2 q) conj0), ?_⟩
    refine ⟨fun c => ?_, fun c => ?_⟩
    ·rw [cond_t (show ((v_u31 k c_.2.2.2 != (0 : Int))) = true from c)] at h
     cases h; exact ⟨rfl, rfl⟩
    ·rw [cond_f (show ((v_u31 k c_.2.2.2 != (0 : Int))) = false from c)] at h
     by_cases q : ((f_u54 k c_.2.2.2).isSome = true)
     ·rw [if_pos q] at h
      refine ⟨(conjC (cc_u54 k c_.2.2.2 q) conj0), ?_⟩
      cases h; exact ⟨rfl, rfl⟩
     ·rw [if_neg q] at h; cases h
   ·rw [if_neg q] at h; cases h
 ·rw [if_neg q] at h; cases h
theorem cc_u61 (k : Nat) (c_ : T1.T) (h : (f_u61 k c_).isSome = true) : CC Try.prog 43 (args_u61 c_) (bin_u61 c_) (res_u61 (v_u61 k c_)) (bo_u61 c_ (v_u61 k c_)) := by
 cases e : f_u61 k c_ with
 | none => rw [e] at h; cases h
 | some r => rw [show v_u61 k c_ = r by simp [v_u61, e]]; exact of_u61 k c_ r e
theorem ccA_u61 (k : Nat) (c_ : T1.T) (h : (f_u61 k c_).isSome = true) (hb : (v_u61 k c_).isLeft = true) : CC Try.prog 43 (args_u61 c_) (bin_u61 c_) (resA_u61 (vA_u61 k c_)) (boA_u61 c_ (vA_u61 k c_)) := by
 have h1 := cc_u61 k c_ h
 unfold vA_u61
 cases e : v_u61 k c_ with
 | inl a => rw [e] at h1 hb; exact h1
 | inr a => rw [e] at h1 hb; cases hb
theorem ccB_u61 (k : Nat) (c_ : T1.T) (h : (f_u61 k c_).isSome = true) (hb : (v_u61 k c_).isLeft = false) : CC Try.prog 43 (args_u61 c_) (bin_u61 c_) (resB_u61 (vB_u61 k c_)) (boB_u61 c_ (vB_u61 k c_)) := by
 have h1 := cc_u61 k c_ h
 unfold vB_u61
 cases e : v_u61 k c_ with
 | inl a => rw [e] at h1 hb; cases hb
 | inr a => rw [e] at h1 hb; exact h1

end
end Go.AM
namespace Go.AM
open Go Go.Proofs Go.IntKind
set_option linter.unusedVariables false
noncomputable section
abbrev R_u60 : Type := Int × Int × Int
def res_u60 (r : R_u60) : AV := .tup [.r (.v (.int .i64 r.1)), .r (.v (.int .i64 r.2.1)), .r (.v (.int .i64 r.2.2))]
def bo_u60 (c_ : T1.T) (x_ : Int) (y_ : Int) (r : R_u60) : List (Nat × Blk) := []
def args_u60 (c_ : T1.T) (x_ : Int) (y_ : Int) : List AV := [.agg (rvs (enc T1 c_)), .r (.v (.int .i64 x_)), .r (.v (.int .i64 y_))]
def bin_u60 (c_ : T1.T) (x_ : Int) (y_ : Int) : List Blk := []
def f_u60 (k : Nat) (c_ : T1.T) (x_ : Int) (y_ : Int) : Option R_u60 :=
 bif (Sum.isLeft (v_u61 k c_)) then
 if ((f_u61 k c_).isSome = true) then
 bif ((vA_u61 k c_).2.2.2 != (0 : Int)) then
 some ((0, 0, (vA_u61 k c_).2.2.2))
 else
 bif (decide (x_ < (0 : Int)) || decide (x_ ≥ c_.2.1)) then
 some ((0, 0, 20))
 else
 if ((f_u29 k c_.2.2.2 y_).isSome = true) then
 bif ((v_u29 k c_.2.2.2 y_).2 != (0 : Int)) then
 some ((0, 0, (v_u29 k c_.2.2.2 y_).2))
 else
 bif c_.2.2.1 then
 some ((i64.wrap (c_.1 + i64.wrap (i64.wrap (c_.2.1 - 1) - x_)), (v_u29 k c_.2.2.2 y_).1, 0))
 else
 some ((i64.wrap (c_.1 + x_), (v_u29 k c_.2.2.2 y_).1, 0))
 else none
 else none
 else
 if ((f_u61 k c_).isSome = true) then
 bif ((vB_u61 k c_).2.2.2.1 != (0 : Int)) then
 some ((0, 0, (vB_u61 k c_).2.2.2.1))
 else
 bif (decide (x_ < (0 : Int)) || decide (x_ ≥ c_.2.1)) then
 some ((0, 0, 20))
 else
 if ((f_u29 k c_.2.2.2 y_).isSome = true) then
 bif ((v_u29 k c_.2.2.2 y_).2 != (0 : Int)) then
 some ((0, 0, (v_u29 k c_.2.2.2 y_).2))
 else
 bif c_.2.2.1 then
 some ((i64.wrap (c_.1 + i64.wrap (i64.wrap (c_.2.1 - 1) - x_)), (v_u29 k c_.2.2.2 y_).1, 0))
 else
 some ((i64.wrap (c_.1 + x_), (v_u29 k c_.2.2.2 y_).1, 0))
 else none
 else none
def v_u60 (k : Nat) (c_ : T1.T) (x_ : Int) (y_ : Int) : R_u60 := (f_u60 k c_ x_ y_).getD (0, 0, 0)
def K_u60 (k : Nat) : Calld := ⟨fun g xs => match g with
 | 12 => match xs with
  | [_, _] => some [false, false]
  | _ => none
 | 43 => match xs with
  | [_] => some [false]
  | _ => none
 | _ => none, fun g xs bs => match g with
 | 12 => match xs, bs with
  | [.r (.ro tm__ qm_), .r (.v (.int .i64 x_))], [] => (castL tm__ T0 qm_).bind fun m_ => some (.one (res_u29 (v_u29 k m_ x_), bo_u29 m_ x_ (v_u29 k m_ x_)))
  | _, _ => none
 | 43 => match xs, bs with
  | [.agg qc_], [] => (decS [] T1 qc_).bind fun c_ => some (.two (v_u61 k c_).isLeft (resA_u61 (vA_u61 k c_), boA_u61 c_ (vA_u61 k c_)) (resB_u61 (vB_u61 k c_), boB_u61 c_ (vB_u61 k c_)))
  | _, _ => none
 | _ => none⟩
theorem of_u60 (k : Nat) (c_ : T1.T) (x_ : Int) (y_ : Int) (r : R_u60) (h : f_u60 k c_ x_ y_ = some r) : CC Try.prog 36 (args_u60 c_ x_ y_) (bin_u60 c_ x_ y_) (res_u60 r) (bo_u60 c_ x_ y_ r) := by
 refine CC.of (fn := Try.f36) (by kernel_rfl) (by kernel_rfl) (by kernel_rfl) (by kernel_rfl) ?_
 unfold f_u60 at h
 refine Ev.tree hm (R := Rt) (K := (K_u60 k)) (l := []) (C := []) (E := [.autoB [6, 7, 8] true []]) (n := 1000) (T := .test ((Sum.isLeft (v_u61 k c_))) (.need [CC Try.prog 43 (args_u61 c_) (bin_u61 c_) (resA_u61 (vA_u61 k c_)) (boA_u61 c_ (vA_u61 k c_))] (.test (((vA_u61 k c_).2.2.2 != (0 : Int))) (.leaf (res_u60 ((0, 0, (vA_u61 k c_).2.2.2))) (bo_u60 c_ x_ y_ ((0, 0, (vA_u61 k c_).2.2.2)))) (.test ((decide (x_ < (0 : Int)) || decide (x_ ≥ c_.2.1))) (.leaf (res_u60 ((0, 0, 20))) (bo_u60 c_ x_ y_ ((0, 0, 20)))) (.need [CC Try.prog 12 (args_u29 c_.2.2.2 y_) (bin_u29 c_.2.2.2 y_) (res_u29 (v_u29 k c_.2.2.2 y_)) (bo_u29 c_.2.2.2 y_ (v_u29 k c_.2.2.2 y_))] (.test (((v_u29 k c_.2.2.2 y_).2 != (0 : Int))) (.leaf (res_u60 ((0, 0, (v_u29 k c_.2.2.2 y_).2))) (bo_u60 c_ x_ y_ ((0, 0, (v_u29 k c_.2.2.2 y_).2)))) (.test (c_.2.2.1) (.leaf (res_u60 ((i64.wrap (c_.1 + i64.wrap (i64.wrap (c_.2.1 - 1) - x_)), (v_u29 k c_.2.2.2 y_).1, 0))) (bo_u60 c_ x_ y_ ((i64.wrap (c_.1 + i64.wrap (i64.wrap (c_.2.1 - 1) - x_)), (v_u29 k c_.2.2.2 y_).1, 0)))) (.leaf (res_u60 ((i64.wrap (c_.1 + x_), (v_u29 k c_.2.2.2 y_).1, 0))) (bo_u60 c_ x_ y_ ((i64.wrap (c_.1 + x_), (v_u29 k c_.2.2.2 y_).1, 0)))))))))) (.need [CC Try.prog 43 (args_u61 c_) (bin_u61 c_) (resB_u61 (vB_u61 k c_)) (boB_u61 c_ (vB_u61 k c_))] (.test (((vB_u61 k c_).2.2.2.1 != (0 : Int))) (.leaf (res_u60 ((0, 0, (vB_u61 k c_).2.2.2.1))) (bo_u60 c_ x_ y_ ((0, 0, (vB_u61 k c_).2.2.2.1)))) (.test ((decide (x_ < (0 : Int)) || decide (x_ ≥ c_.2.1))) (.leaf (res_u60 ((0, 0, 20))) (bo_u60 c_ x_ y_ ((0, 0, 20)))) (.need [CC Try.prog 12 (args_u29 c_.2.2.2 y_) (bin_u29 c_.2.2.2 y_) (res_u29 (v_u29 k c_.2.2.2 y_)) (bo_u29 c_.2.2.2 y_ (v_u29 k c_.2.2.2 y_))] (.test (((v_u29 k c_.2.2.2 y_).2 != (0 : Int))) (.leaf (res_u60 ((0, 0, (v_u29 k c_.2.2.2 y_).2))) (bo_u60 c_ x_ y_ ((0, 0, (v_u29 k c_.2.2.2 y_).2)))) (.test (c_.2.2.1) (.leaf (res_u60 ((i64.wrap (c_.1 + i64.wrap (i64.wrap (c_.2.1 - 1) - x_)), (v_u29 k c_.2.2.2 y_).1, 0))) (bo_u60 c_ x_ y_ ((i64.wrap (c_.1 + i64.wrap (i64.wrap (c_.2.1 - 1) - x_)), (v_u29 k c_.2.2.2 y_).1, 0)))) (.leaf (res_u60 ((i64.wrap (c_.1 + x_), (v_u29 k c_.2.2.2 y_).1, 0))) (bo_u60 c_ x_ y_ ((i64.wrap (c_.1 + x_), (v_u29 k c_.2.2.2 y_).1, 0))))))))))) (by kernel_rfl) ?_
 refine ⟨fun c => ?_, fun c => ?_⟩
 ·rw [cond_t (show ((Sum.isLeft (v_u61 k c_))) = true from c)] at h
  by_cases q : ((f_u61 k c_).isSome = true)
  ·rw [if_pos q] at h
   refine ⟨(conjC (ccA_u61 k c_ q (by assumption)) conj0), ?_⟩
   refine ⟨fun c => ?_, fun c => ?_⟩
   ·rw [cond_t (show (((vA_u61 k c_).2.2.2 != (0 : Int))) = true from c)] at h
    cases h; exact ⟨rfl, rfl⟩
   ·rw [cond_f (show (((vA_u61 k c_).2.2.2 != (0 : Int))) = false from c)] at h
    refine ⟨fun c => ?_, fun c => ?_⟩
    ·rw [cond_t (show ((decide (x_ < (0 : Int)) || decide (x_ ≥ c_.2.1))) = true from c)] at h
     cases h; exact ⟨rfl, rfl⟩
    ·rw [cond_f (show ((decide (x_ < (0 : Int)) || decide (x_ ≥ c_.2.1))) = false from c)] at h
     by_cases q : ((f_u29 k c_.2.2.2 y_).isSome = true)
     ·rw [if_pos q] at h
      refine ⟨(conjC (cc_u29 k c_.2.2.2 y_ q) conj0), ?_⟩
      refine ⟨fun c => ?_, fun c => ?_⟩
      ·rw [cond_t (show (((v_u29 k c_.2.2.2 y_).2 != (0 : Int))) = true from c)] at h
       cases h; exact ⟨rfl, rfl⟩
      ·rw [cond_f (show (((v_u29 k c_.2.2.2 y_).2 != (0 : Int))) = false from c)] at h
       refine ⟨fun c => ?_, fun c => ?_⟩
       ·rw [cond_t (show c_.2.2.1 = true from c)] at h
        cases h; exact ⟨rfl, rfl⟩
       ·rw [cond_f (show c_.2.2.1 = false from c)] at h
        cases h; exact ⟨rfl, rfl⟩
     ·rw [if_neg q] at h; cases h
  ·rw [if_neg q] at h; cases h
 ·rw [cond_f (show ((Sum.isLeft (v_u61 k c_))) = false from c)] at h
  by_cases q : ((f_u61 k c_).isSome = true)
  ·rw [if_pos q] at h
   refine ⟨(conjC (ccB_u61 k c_ q (by assumption)) conj0), ?_⟩
   refine ⟨fun c => ?_, fun c => ?_⟩
   ·rw [cond_t (show (((vB_u61 k c_).2.2.2.1 != (0 : Int))) = true from c)] at h
    cases h; exact ⟨rfl, rfl⟩
   ·rw [cond_f (show (((vB_u61 k c_).2.2.2.1 != (0 : Int))) = false from c)] at h
    refine ⟨fun c => ?_, fun c => ?_⟩
    ·rw [cond_t (show ((decide (x_ < (0 : Int)) || decide (x_ ≥ c_.2.1))) = true from c)] at h
     cases h; exact ⟨rfl, rfl⟩
    ·rw [cond_f (show ((decide (x_ < (0 : Int)) || decide (x_ ≥ c_.2.1))) = false from c)] at h
     by_cases q : ((f_u29 k c_.2.2.2 y_).isSome = true)
     ·rw [if_pos q] at h
      refine ⟨(conjC (cc_u29 k c_.2.2.2 y_ q) conj0), ?_⟩
      refine ⟨fun c => ?_, fun c => ?_⟩
      ·rw [cond_t (show (((v_u29 k c_.2.2.2 y_).2 != (0 : Int))) = true from c)] at h
       cases h; exact ⟨rfl, rfl⟩
      ·rw [cond_f (show (((v_u29 k c_.2.2.2 y_).2 != (0 : Int))) = false from c)] at h
       refine ⟨fun c => ?_, fun c => ?_⟩
       ·rw [cond_t (show c_.2.2.1 = true from c)] at h
        cases h; exact ⟨rfl, rfl⟩
       ·rw [cond_f (show c_.2.2.1 = false from c)] at h
        cases h; exact ⟨rfl, rfl⟩
     ·rw [if_neg q] at h; cases h
  ·rw [if_neg q] at h; cases h
theorem cc_u60 (k : Nat) (c_ : T1.T) (x_ : Int) (y_ : Int) (h : (f_u60 k c_ x_ y_).isSome = true) : CC Try.prog 36 (args_u60 c_ x_ y_) (bin_u60 c_ x_ y_) (res_u60 (v_u60 k c_ x_ y_)) (bo_u60 c_ x_ y_ (v_u60 k c_ x_ y_)) := by
 cases e : f_u60 k c_ x_ y_ with
 | none => rw [e] at h; cases h
 | some r => rw [show v_u60 k c_ x_ y_ = r by simp [v_u60, e]]; exact of_u60 k c_ x_ y_ r e

end
end Go.AM
namespace Go.AM
open Go Go.Proofs Go.IntKind
set_option linter.unusedVariables false
noncomputable section
abbrev R_u16 : Type := T4.T
def res_u16 (r : R_u16) : AV := .agg (rvs (enc T4 r))
def bo_u16 (r_ : T2.T) (p_ : T4.T) (r : R_u16) : List (Nat × Blk) := []
def args_u16 (r_ : T2.T) (p_ : T4.T) : List AV := [.agg (rvs (enc T2 r_)), .agg (rvs (enc T4 p_))]
def bin_u16 (r_ : T2.T) (p_ : T4.T) : List Blk := []
def f_u16 (k : Nat) (r_ : T2.T) (p_ : T4.T) : Option R_u16 :=
 if ((f_u60 k r_.2.2 p_.2.1 p_.2.2).isSome = true) then
 some ((r_.2.1, ((v_u60 k r_.2.2 p_.2.1 p_.2.2).1, (v_u60 k r_.2.2 p_.2.1 p_.2.2).2.1)))
 else none
def v_u16 (k : Nat) (r_ : T2.T) (p_ : T4.T) : R_u16 := (f_u16 k r_ p_).getD (T4).dflt
def K_u16 (k : Nat) : Calld := ⟨fun g xs => match g with
 | 36 => match xs with
  | [_, _, _] => some [false, false, false]
  | _ => none
 | _ => none, fun g xs bs => match g with
 | 36 => match xs, bs with
  | [.agg qc_, .r (.v (.int .i64 x_)), .r (.v (.int .i64 y_))], [] => (decS [] T1 qc_).bind fun c_ => some (.one (res_u60 (v_u60 k c_ x_ y_), bo_u60 c_ x_ y_ (v_u60 k c_ x_ y_)))
  | _, _ => none
 | _ => none⟩
theorem of_u16 (k : Nat) (r_ : T2.T) (p_ : T4.T) (r : R_u16) (h : f_u16 k r_ p_ = some r) : CC Try.prog 22 (args_u16 r_ p_) (bin_u16 r_ p_) (res_u16 r) (bo_u16 r_ p_ r) := by
 refine CC.of (fn := Try.f22) (by kernel_rfl) (by kernel_rfl) (by kernel_rfl) (by kernel_rfl) ?_
 unfold f_u16 at h
 refine Ev.tree hm (R := Rt) (K := (K_u16 k)) (l := []) (C := []) (E := [.autoB [4] true []]) (n := 1000) (T := .need [CC Try.prog 36 (args_u60 r_.2.2 p_.2.1 p_.2.2) (bin_u60 r_.2.2 p_.2.1 p_.2.2) (res_u60 (v_u60 k r_.2.2 p_.2.1 p_.2.2)) (bo_u60 r_.2.2 p_.2.1 p_.2.2 (v_u60 k r_.2.2 p_.2.1 p_.2.2))] (.leaf (res_u16 ((r_.2.1, ((v_u60 k r_.2.2 p_.2.1 p_.2.2).1, (v_u60 k r_.2.2 p_.2.1 p_.2.2).2.1)))) (bo_u16 r_ p_ ((r_.2.1, ((v_u60 k r_.2.2 p_.2.1 p_.2.2).1, (v_u60 k r_.2.2 p_.2.1 p_.2.2).2.1)))))) (by kernel_rfl) ?_
 by_cases q : ((f_u60 k r_.2.2 p_.2.1 p_.2.2).isSome = true)
 ·rw [if_pos q] at h
  refine ⟨(conjC (cc_u60 k r_.2.2 p_.2.1 p_.2.2 q) conj0), ?_⟩
  cases h; exact ⟨rfl, rfl⟩
 ·rw [if_neg q] at h; cases h
theorem cc_u16 (k : Nat) (r_ : T2.T) (p_ : T4.T) (h : (f_u16 k r_ p_).isSome = true) : CC Try.prog 22 (args_u16 r_ p_) (bin_u16 r_ p_) (res_u16 (v_u16 k r_ p_)) (bo_u16 r_ p_ (v_u16 k r_ p_)) := by
 cases e : f_u16 k r_ p_ with
 | none => rw [e] at h; cases h
 | some r => rw [show v_u16 k r_ p_ = r by simp [v_u16, e]]; exact of_u16 k r_ p_ r e

end
end Go.AM
namespace Go.AM
open Go Go.Proofs Go.IntKind
set_option linter.unusedVariables false
noncomputable section
abbrev R_u9 : Type := T4.T × Int
def res_u9 (r : R_u9) : AV := .tup [.agg (rvs (enc T4 r.1)), .r (.v (.int .i64 r.2))]
def bo_u9 (l_ : List (T2).T) (web_ : T5.T) (p_ : T4.T) (r : R_u9) : List (Nat × Blk) := []
def args_u9 (l_ : List (T2).T) (web_ : T5.T) (p_ : T4.T) : List AV := [.r (.ro T2 l_), .agg (rvs (enc T5 web_)), .agg (rvs (enc T4 p_))]
def bin_u9 (l_ : List (T2).T) (web_ : T5.T) (p_ : T4.T) : List Blk := []
def f_u9 (k : Nat) (l_ : List (T2).T) (web_ : T5.T) (p_ : T4.T) : Option R_u9 :=
 bif (Sum.isLeft (v_u13 k l_ web_ p_.1)) then
 if ((f_u13 k l_ web_ p_.1).isSome = true) then
 bif (vA_u13 k l_ web_ p_.1 != (0 : Int)) then
 some (((0, (0, 0)), vA_u13 k l_ web_ p_.1))
 else
 bif (p_.1 == (0 : Int)) then
 some (((0, (0, 0)), 7))
 else
 none
 else none
 else
 if ((f_u13 k l_ web_ p_.1).isSome = true) then
 bif ((vB_u13 k l_ web_ p_.1).1 != (0 : Int)) then
 some (((0, (0, 0)), (vB_u13 k l_ web_ p_.1).1))
 else
 bif (p_.1 == (0 : Int)) then
 some (((0, (0, 0)), 7))
 else
 if ((f_u25 k (vB_u13 k l_ web_ p_.1).2.1 (vB_u13 k l_ web_ p_.1).2.2.1 (vB_u13 k l_ web_ p_.1).2.2.2.1 (vB_u13 k l_ web_ p_.1).2.2.2.2 p_).isSome = true) then
 bif (v_u25 k (vB_u13 k l_ web_ p_.1).2.1 (vB_u13 k l_ web_ p_.1).2.2.1 (vB_u13 k l_ web_ p_.1).2.2.2.1 (vB_u13 k l_ web_ p_.1).2.2.2.2 p_ != (0 : Int)) then
 some (((0, (0, 0)), v_u25 k (vB_u13 k l_ web_ p_.1).2.1 (vB_u13 k l_ web_ p_.1).2.2.1 (vB_u13 k l_ web_ p_.1).2.2.2.1 (vB_u13 k l_ web_ p_.1).2.2.2.2 p_))
 else
 if ((0 : Int) ≤ (mget I p_.1 (vB_u13 k l_ web_ p_.1).2.2.2.2).getD (0 : Int)) ∧ ((mget I p_.1 (vB_u13 k l_ web_ p_.1).2.2.2.2).getD (0 : Int) < (↑ (vB_u13 k l_ web_ p_.1).2.2.2.1.length : Int)) ∧ ((f_u16 k ((vB_u13 k l_ web_ p_.1).2.2.2.1.getD (Int.toNat ((mget I p_.1 (vB_u13 k l_ web_ p_.1).2.2.2.2).getD 0)) T2.dflt) p_).isSome = true) then
 some ((v_u16 k ((vB_u13 k l_ web_ p_.1).2.2.2.1.getD (Int.toNat ((mget I p_.1 (vB_u13 k l_ web_ p_.1).2.2.2.2).getD 0)) T2.dflt) p_, 0))
 else none
 else none
 else none
def v_u9 (k : Nat) (l_ : List (T2).T) (web_ : T5.T) (p_ : T4.T) : R_u9 := (f_u9 k l_ web_ p_).getD ((T4).dflt, 0)
def K_u9 (k : Nat) : Calld := ⟨fun g xs => match g with
 | 19 => match xs with
  | [_, _, _] => some [false, false, false]
  | _ => none
 | 20 => match xs with
  | [.ptr _ _ _, _] => some [true, false]
  | _ => none
 | 22 => match xs with
  | [_, _] => some [false, false]
  | _ => none
 | _ => none, fun g xs bs => match g with
 | 19 => match xs, bs with
  | [.r (.ro tl__ ql_), .agg qweb_, .r (.v (.int .i64 id_))], [] => (castL tl__ T2 ql_).bind fun l_ => (decS [] T5 qweb_).bind fun web_ => some (.two (v_u13 k l_ web_ id_).isLeft (resA_u13 (vA_u13 k l_ web_ id_), boA_u13 l_ web_ id_ (vA_u13 k l_ web_ id_)) (resB_u13 (vB_u13 k l_ web_ id_), boB_u13 l_ web_ id_ (vB_u13 k l_ web_ id_)))
  | _, _ => none
 | 20 => match xs, bs with
  | [.ptr 0 0 0, .agg qp_], [.var 71 [.r (.v (.int .i64 g_0)), .r (.v (.int .i64 g_1)), .r (.ro tg_2_ qg_2), .own 1 0], .map false kg_3_ tg_3_ qg_3] => (decS [] T4 qp_).bind fun p_ => (castL tg_2_ T2 qg_2).bind fun g_2 => (castM kg_3_ tg_3_ I I qg_3).bind fun g_3 => some (.one (res_u25 (v_u25 k g_0 g_1 g_2 g_3 p_), bo_u25 g_0 g_1 g_2 g_3 p_ (v_u25 k g_0 g_1 g_2 g_3 p_)))
  | _, _ => none
 | 22 => match xs, bs with
  | [.agg qr_, .agg qp_], [] => (decS [] T2 qr_).bind fun r_ => (decS [] T4 qp_).bind fun p_ => some (.one (res_u16 (v_u16 k r_ p_), bo_u16 r_ p_ (v_u16 k r_ p_)))
  | _, _ => none
 | _ => none⟩
theorem of_u9 (k : Nat) (l_ : List (T2).T) (web_ : T5.T) (p_ : T4.T) (r : R_u9) (h : f_u9 k l_ web_ p_ = some r) : CC Try.prog 13 (args_u9 l_ web_ p_) (bin_u9 l_ web_ p_) (res_u9 r) (bo_u9 l_ web_ p_ r) := by
 refine CC.of (fn := Try.f13) (by kernel_rfl) (by kernel_rfl) (by kernel_rfl) (by kernel_rfl) ?_
 unfold f_u9 at h
 refine Ev.tree hm (R := Rt) (K := (K_u9 k)) (l := []) (C := []) (E := [.autoB [6, 7] true []]) (n := 1000) (T := .test ((Sum.isLeft (v_u13 k l_ web_ p_.1))) (.need [CC Try.prog 19 (args_u13 l_ web_ p_.1) (bin_u13 l_ web_ p_.1) (resA_u13 (vA_u13 k l_ web_ p_.1)) (boA_u13 l_ web_ p_.1 (vA_u13 k l_ web_ p_.1))] (.test ((vA_u13 k l_ web_ p_.1 != (0 : Int))) (.leaf (res_u9 (((0, (0, 0)), vA_u13 k l_ web_ p_.1))) (bo_u9 l_ web_ p_ (((0, (0, 0)), vA_u13 k l_ web_ p_.1)))) (.test ((p_.1 == (0 : Int))) (.leaf (res_u9 (((0, (0, 0)), 7))) (bo_u9 l_ web_ p_ (((0, (0, 0)), 7)))) (.stuck 2002)))) (.need [CC Try.prog 19 (args_u13 l_ web_ p_.1) (bin_u13 l_ web_ p_.1) (resB_u13 (vB_u13 k l_ web_ p_.1)) (boB_u13 l_ web_ p_.1 (vB_u13 k l_ web_ p_.1))] (.test (((vB_u13 k l_ web_ p_.1).1 != (0 : Int))) (.leaf (res_u9 (((0, (0, 0)), (vB_u13 k l_ web_ p_.1).1))) (bo_u9 l_ web_ p_ (((0, (0, 0)), (vB_u13 k l_ web_ p_.1).1)))) (.test ((p_.1 == (0 : Int))) (.leaf (res_u9 (((0, (0, 0)), 7))) (bo_u9 l_ web_ p_ (((0, (0, 0)), 7)))) (.need [CC Try.prog 20 (args_u25 (vB_u13 k l_ web_ p_.1).2.1 (vB_u13 k l_ web_ p_.1).2.2.1 (vB_u13 k l_ web_ p_.1).2.2.2.1 (vB_u13 k l_ web_ p_.1).2.2.2.2 p_) (bin_u25 (vB_u13 k l_ web_ p_.1).2.1 (vB_u13 k l_ web_ p_.1).2.2.1 (vB_u13 k l_ web_ p_.1).2.2.2.1 (vB_u13 k l_ web_ p_.1).2.2.2.2 p_) (res_u25 (v_u25 k (vB_u13 k l_ web_ p_.1).2.1 (vB_u13 k l_ web_ p_.1).2.2.1 (vB_u13 k l_ web_ p_.1).2.2.2.1 (vB_u13 k l_ web_ p_.1).2.2.2.2 p_)) (bo_u25 (vB_u13 k l_ web_ p_.1).2.1 (vB_u13 k l_ web_ p_.1).2.2.1 (vB_u13 k l_ web_ p_.1).2.2.2.1 (vB_u13 k l_ web_ p_.1).2.2.2.2 p_ (v_u25 k (vB_u13 k l_ web_ p_.1).2.1 (vB_u13 k l_ web_ p_.1).2.2.1 (vB_u13 k l_ web_ p_.1).2.2.2.1 (vB_u13 k l_ web_ p_.1).2.2.2.2 p_))] (.test ((v_u25 k (vB_u13 k l_ web_ p_.1).2.1 (vB_u13 k l_ web_ p_.1).2.2.1 (vB_u13 k l_ web_ p_.1).2.2.2.1 (vB_u13 k l_ web_ p_.1).2.2.2.2 p_ != (0 : Int))) (.leaf (res_u9 (((0, (0, 0)), v_u25 k (vB_u13 k l_ web_ p_.1).2.1 (vB_u13 k l_ web_ p_.1).2.2.1 (vB_u13 k l_ web_ p_.1).2.2.2.1 (vB_u13 k l_ web_ p_.1).2.2.2.2 p_))) (bo_u9 l_ web_ p_ (((0, (0, 0)), v_u25 k (vB_u13 k l_ web_ p_.1).2.1 (vB_u13 k l_ web_ p_.1).2.2.1 (vB_u13 k l_ web_ p_.1).2.2.2.1 (vB_u13 k l_ web_ p_.1).2.2.2.2 p_)))) (.need [(0 : Int) ≤ (mget I p_.1 (vB_u13 k l_ web_ p_.1).2.2.2.2).getD (0 : Int), (mget I p_.1 (vB_u13 k l_ web_ p_.1).2.2.2.2).getD (0 : Int) < (↑ (vB_u13 k l_ web_ p_.1).2.2.2.1.length : Int), CC Try.prog 22 (args_u16 ((vB_u13 k l_ web_ p_.1).2.2.2.1.getD (Int.toNat ((mget I p_.1 (vB_u13 k l_ web_ p_.1).2.2.2.2).getD 0)) T2.dflt) p_) (bin_u16 ((vB_u13 k l_ web_ p_.1).2.2.2.1.getD (Int.toNat ((mget I p_.1 (vB_u13 k l_ web_ p_.1).2.2.2.2).getD 0)) T2.dflt) p_) (res_u16 (v_u16 k ((vB_u13 k l_ web_ p_.1).2.2.2.1.getD (Int.toNat ((mget I p_.1 (vB_u13 k l_ web_ p_.1).2.2.2.2).getD 0)) T2.dflt) p_)) (bo_u16 ((vB_u13 k l_ web_ p_.1).2.2.2.1.getD (Int.toNat ((mget I p_.1 (vB_u13 k l_ web_ p_.1).2.2.2.2).getD 0)) T2.dflt) p_ (v_u16 k ((vB_u13 k l_ web_ p_.1).2.2.2.1.getD (Int.toNat ((mget I p_.1 (vB_u13 k l_ web_ p_.1).2.2.2.2).getD 0)) T2.dflt) p_))] (.leaf (res_u9 ((v_u16 k ((vB_u13 k l_ web_ p_.1).2.2.2.1.getD (Int.toNat ((mget I p_.1 (vB_u13 k l_ web_ p_.1).2.2.2.2).getD 0)) T2.dflt) p_, 0))) (bo_u9 l_ web_ p_ ((v_u16 k ((vB_u13 k l_ web_ p_.1).2.2.2.1.getD (Int.toNat ((mget I p_.1 (vB_u13 k l_ web_ p_.1).2.2.2.2).getD 0)) T2.dflt) p_, 0))))))))))) (by kernel_rfl) ?_
 refine ⟨fun c => ?_, fun c => ?_⟩
 ·rw [cond_t (show ((Sum.isLeft (v_u13 k l_ web_ p_.1))) = true from c)] at h
  by_cases q : ((f_u13 k l_ web_ p_.1).isSome = true)
  ·rw [if_pos q] at h
   refine ⟨(conjC (ccA_u13 k l_ web_ p_.1 q (by assumption)) conj0), ?_⟩
   refine ⟨fun c => ?_, fun c => ?_⟩
   ·rw [cond_t (show ((vA_u13 k l_ web_ p_.1 != (0 : Int))) = true from c)] at h
    cases h; exact ⟨rfl, rfl⟩
   ·rw [cond_f (show ((vA_u13 k l_ web_ p_.1 != (0 : Int))) = false from c)] at h
    refine ⟨fun c => ?_, fun c => ?_⟩
    ·rw [cond_t (show ((p_.1 == (0 : Int))) = true from c)] at h
     cases h; exact ⟨rfl, rfl⟩
    ·rw [cond_f (show ((p_.1 == (0 : Int))) = false from c)] at h
     cases h
  ·rw [if_neg q] at h; cases h
 ·rw [cond_f (show ((Sum.isLeft (v_u13 k l_ web_ p_.1))) = false from c)] at h
  by_cases q : ((f_u13 k l_ web_ p_.1).isSome = true)
  ·rw [if_pos q] at h
   refine ⟨(conjC (ccB_u13 k l_ web_ p_.1 q (by assumption)) conj0), ?_⟩
   refine ⟨fun c => ?_, fun c => ?_⟩
   ·rw [cond_t (show (((vB_u13 k l_ web_ p_.1).1 != (0 : Int))) = true from c)] at h
    cases h; exact ⟨rfl, rfl⟩
   ·rw [cond_f (show (((vB_u13 k l_ web_ p_.1).1 != (0 : Int))) = false from c)] at h
    refine ⟨fun c => ?_, fun c => ?_⟩
    ·rw [cond_t (show ((p_.1 == (0 : Int))) = true from c)] at h
     cases h; exact ⟨rfl, rfl⟩
    ·rw [cond_f (show ((p_.1 == (0 : Int))) = false from c)] at h
     by_cases q : ((f_u25 k (vB_u13 k l_ web_ p_.1).2.1 (vB_u13 k l_ web_ p_.1).2.2.1 (vB_u13 k l_ web_ p_.1).2.2.2.1 (vB_u13 k l_ web_ p_.1).2.2.2.2 p_).isSome = true)
     ·rw [if_pos q] at h
      refine ⟨(conjC (cc_u25 k (vB_u13 k l_ web_ p_.1).2.1 (vB_u13 k l_ web_ p_.1).2.2.1 (vB_u13 k l_ web_ p_.1).2.2.2.1 (vB_u13 k l_ web_ p_.1).2.2.2.2 p_ q) conj0), ?_⟩
      refine ⟨fun c => ?_, fun c => ?_⟩
      ·rw [cond_t (show ((v_u25 k (vB_u13 k l_ web_ p_.1).2.1 (vB_u13 k l_ web_ p_.1).2.2.1 (vB_u13 k l_ web_ p_.1).2.2.2.1 (vB_u13 k l_ web_ p_.1).2.2.2.2 p_ != (0 : Int))) = true from c)] at h
       cases h; exact ⟨rfl, rfl⟩
      ·rw [cond_f (show ((v_u25 k (vB_u13 k l_ web_ p_.1).2.1 (vB_u13 k l_ web_ p_.1).2.2.1 (vB_u13 k l_ web_ p_.1).2.2.2.1 (vB_u13 k l_ web_ p_.1).2.2.2.2 p_ != (0 : Int))) = false from c)] at h
       by_cases q : ((0 : Int) ≤ (mget I p_.1 (vB_u13 k l_ web_ p_.1).2.2.2.2).getD (0 : Int)) ∧ ((mget I p_.1 (vB_u13 k l_ web_ p_.1).2.2.2.2).getD (0 : Int) < (↑ (vB_u13 k l_ web_ p_.1).2.2.2.1.length : Int)) ∧ ((f_u16 k ((vB_u13 k l_ web_ p_.1).2.2.2.1.getD (Int.toNat ((mget I p_.1 (vB_u13 k l_ web_ p_.1).2.2.2.2).getD 0)) T2.dflt) p_).isSome = true)
       ·rw [if_pos q] at h
        refine ⟨(conjC q.1 (conjC q.2.1 (conjC (cc_u16 k ((vB_u13 k l_ web_ p_.1).2.2.2.1.getD (Int.toNat ((mget I p_.1 (vB_u13 k l_ web_ p_.1).2.2.2.2).getD 0)) T2.dflt) p_ q.2.2) conj0))), ?_⟩
        cases h; exact ⟨rfl, rfl⟩
       ·rw [if_neg q] at h; cases h
     ·rw [if_neg q] at h; cases h
  ·rw [if_neg q] at h; cases h
theorem cc_u9 (k : Nat) (l_ : List (T2).T) (web_ : T5.T) (p_ : T4.T) (h : (f_u9 k l_ web_ p_).isSome = true) : CC Try.prog 13 (args_u9 l_ web_ p_) (bin_u9 l_ web_ p_) (res_u9 (v_u9 k l_ web_ p_)) (bo_u9 l_ web_ p_ (v_u9 k l_ web_ p_)) := by
 cases e : f_u9 k l_ web_ p_ with
 | none => rw [e] at h; cases h
 | some r => rw [show v_u9 k l_ web_ p_ = r by simp [v_u9, e]]; exact of_u9 k l_ web_ p_ r e

end
end Go.AM
namespace Go.AM
open Go Go.Proofs Go.IntKind
set_option linter.unusedVariables false
noncomputable section
abbrev R_u27 : Type := Int
def res_u27 (r : R_u27) : AV := .fn ((Fn.func 35)) [] [.ptr 2 0 0, .ptr 3 0 0]
def bo_u27 (g_0 : Int) (g_1 : Int) (g_2 : List (T2).T) (g_3 : List ((I).T × (I).T)) (id_ : Int) (r : R_u27) : List (Nat × Blk) := [(0, .var 71 [.r (.v (.int .i64 g_0)), .r (.v (.int .i64 g_1)), .r (.ro T2 g_2), .own 1 0]), (0, .map false I I g_3), (0, .var 3 [.r (.v (.int .i64 r))]), (0, .var 52 [.ptr 0 0 0])]
def args_u27 (g_0 : Int) (g_1 : Int) (g_2 : List (T2).T) (g_3 : List ((I).T × (I).T)) (id_ : Int) : List AV := [.ptr 0 0 0, .r (.v (.int .i64 id_))]
def bin_u27 (g_0 : Int) (g_1 : Int) (g_2 : List (T2).T) (g_3 : List ((I).T × (I).T)) (id_ : Int) : List Blk := [.var 71 [.r (.v (.int .i64 g_0)), .r (.v (.int .i64 g_1)), .r (.ro T2 g_2), .own 1 0], .map false I I g_3]
def f_u27 (k : Nat) (g_0 : Int) (g_1 : Int) (g_2 : List (T2).T) (g_3 : List ((I).T × (I).T)) (id_ : Int) : Option R_u27 :=
 some id_
def v_u27 (k : Nat) (g_0 : Int) (g_1 : Int) (g_2 : List (T2).T) (g_3 : List ((I).T × (I).T)) (id_ : Int) : R_u27 := (f_u27 k g_0 g_1 g_2 g_3 id_).getD 0
def K_u27 (k : Nat) : Calld := ⟨fun g xs => match g with
 | _ => none, fun g xs bs => match g with
 | _ => none⟩
theorem of_u27 (k : Nat) (g_0 : Int) (g_1 : Int) (g_2 : List (T2).T) (g_3 : List ((I).T × (I).T)) (id_ : Int) (r : R_u27) (h : f_u27 k g_0 g_1 g_2 g_3 id_ = some r) : CC Try.prog 21 (args_u27 g_0 g_1 g_2 g_3 id_) (bin_u27 g_0 g_1 g_2 g_3 id_) (res_u27 r) (bo_u27 g_0 g_1 g_2 g_3 id_ r) := by
 refine CC.of (fn := Try.f21) (by kernel_rfl) (by kernel_rfl) (by kernel_rfl) (by kernel_rfl) ?_
 unfold f_u27 at h
 refine Ev.tree hm (R := Rt) (K := (K_u27 k)) (l := []) (C := []) (E := [.autoB [4] true []]) (n := 1000) (T := .leaf (res_u27 id_) (bo_u27 g_0 g_1 g_2 g_3 id_ id_)) (by kernel_rfl) ?_
 cases h; exact ⟨rfl, rfl⟩
theorem cc_u27 (k : Nat) (g_0 : Int) (g_1 : Int) (g_2 : List (T2).T) (g_3 : List ((I).T × (I).T)) (id_ : Int) (h : (f_u27 k g_0 g_1 g_2 g_3 id_).isSome = true) : CC Try.prog 21 (args_u27 g_0 g_1 g_2 g_3 id_) (bin_u27 g_0 g_1 g_2 g_3 id_) (res_u27 (v_u27 k g_0 g_1 g_2 g_3 id_)) (bo_u27 g_0 g_1 g_2 g_3 id_ (v_u27 k g_0 g_1 g_2 g_3 id_)) := by
 cases e : f_u27 k g_0 g_1 g_2 g_3 id_ with
 | none => rw [e] at h; cases h
 | some r => rw [show v_u27 k g_0 g_1 g_2 g_3 id_ = r by simp [v_u27, e]]; exact of_u27 k g_0 g_1 g_2 g_3 id_ r e

end
end Go.AM
namespace Go.AM
open Go Go.Proofs Go.IntKind
set_option linter.unusedVariables false
noncomputable section
abbrev R_u2 : Type := T4.T
def res_u2 (r : R_u2) : AV := .r (.v (.bool true))
def bo_u2 (s5 : T4.T) (x0 : T2.T) (r : R_u2) : List (Nat × Blk) := [(0, .loop .ready none (rcAt Try.f9 8 [46]) (mkS 40 [(5, .ptr 1 0 0)])), (0, .var 26 (rvs (enc T4 r)))]
def args_u2 (s5 : T4.T) (x0 : T2.T) : List AV := [.agg (rvs (enc T2 x0))]
def bin_u2 (s5 : T4.T) (x0 : T2.T) : List Blk := [.loop .ready none (rcAt Try.f9 8 [46]) (mkS 40 [(5, .ptr 1 0 0)]), .var 26 (rvs (enc T4 s5))]
def f_u2 (k : Nat) (s5 : T4.T) (x0 : T2.T) : Option R_u2 :=
 if ((f_u16 k x0 s5).isSome = true) then
 some (v_u16 k x0 s5)
 else none
def v_u2 (k : Nat) (s5 : T4.T) (x0 : T2.T) : R_u2 := (f_u2 k s5 x0).getD (T4).dflt
def K_u2 (k : Nat) : Calld := ⟨fun g xs => match g with
 | 22 => match xs with
  | [_, _] => some [false, false]
  | _ => none
 | _ => none, fun g xs bs => match g with
 | 22 => match xs, bs with
  | [.agg qr_, .agg qp_], [] => (decS [] T2 qr_).bind fun r_ => (decS [] T4 qp_).bind fun p_ => some (.one (res_u16 (v_u16 k r_ p_), bo_u16 r_ p_ (v_u16 k r_ p_)))
  | _, _ => none
 | _ => none⟩
theorem of_u2 (k : Nat) (s5 : T4.T) (x0 : T2.T) (r : R_u2) (h : f_u2 k s5 x0 = some r) : YC Try.prog (args_u2 s5 x0) (bin_u2 s5 x0) (res_u2 r) (bo_u2 s5 x0 r) := by
 refine YC.of (by rw [show bin_u2 s5 x0 = _ from rfl]; exact List.cons_ne_nil _ _) (by kernel_rfl) ?_
 unfold f_u2 at h
 refine Ev.tree hm (R := Rt) (K := (K_u2 k)) (l := []) (C := []) (E := [.autoB [0] true []]) (n := 1000) (T := .need [CC Try.prog 22 (args_u16 x0 s5) (bin_u16 x0 s5) (res_u16 (v_u16 k x0 s5)) (bo_u16 x0 s5 (v_u16 k x0 s5))] (.leaf (res_u2 (v_u16 k x0 s5)) (bo_u2 s5 x0 (v_u16 k x0 s5)))) (by kernel_rfl) ?_
 by_cases q : ((f_u16 k x0 s5).isSome = true)
 ·rw [if_pos q] at h
  refine ⟨(conjC (cc_u16 k x0 s5 q) conj0), ?_⟩
  cases h; exact ⟨rfl, rfl⟩
 ·rw [if_neg q] at h; cases h
theorem cc_u2 (k : Nat) (s5 : T4.T) (x0 : T2.T) (h : (f_u2 k s5 x0).isSome = true) : YC Try.prog (args_u2 s5 x0) (bin_u2 s5 x0) (res_u2 (v_u2 k s5 x0)) (bo_u2 s5 x0 (v_u2 k s5 x0)) := by
 cases e : f_u2 k s5 x0 with
 | none => rw [e] at h; cases h
 | some r => rw [show v_u2 k s5 x0 = r by simp [v_u2, e]]; exact of_u2 k s5 x0 r e

end
end Go.AM
namespace Go.AM
open Go Go.Proofs Go.IntKind
set_option linter.unusedVariables false
noncomputable section
abbrev R_u28 : Type := T4.T × Int
def res_u28 (r : R_u28) : AV := .tup []
def bo_u28 (yield_5 : T4.T) (z00 : Int) (z100 : Int) (z101 : Int) (z102 : List (T2).T) (z103 : List ((I).T × (I).T)) (r : R_u28) : List (Nat × Blk) := [(0, .loop .ready none (rcAt Try.f9 8 [46]) (mkS 40 [(5, .ptr 1 0 0)])), (0, .var 26 (rvs (enc T4 r.1))), (0, .var 3 [.r (.v (.int .i64 r.2))]), (0, .var 52 [.ptr 4 0 0]), (0, .var 71 [.r (.v (.int .i64 z100)), .r (.v (.int .i64 z101)), .r (.ro T2 z102), .own 5 0]), (0, .map false I I z103)]
def args_u28 (yield_5 : T4.T) (z00 : Int) (z100 : Int) (z101 : Int) (z102 : List (T2).T) (z103 : List ((I).T × (I).T)) : List AV := [.own 0 0, .ptr 2 0 0, .ptr 3 0 0]
def bin_u28 (yield_5 : T4.T) (z00 : Int) (z100 : Int) (z101 : Int) (z102 : List (T2).T) (z103 : List ((I).T × (I).T)) : List Blk := [.loop .ready none (rcAt Try.f9 8 [46]) (mkS 40 [(5, .ptr 1 0 0)]), .var 26 (rvs (enc T4 yield_5)), .var 3 [.r (.v (.int .i64 z00))], .var 52 [.ptr 4 0 0], .var 71 [.r (.v (.int .i64 z100)), .r (.v (.int .i64 z101)), .r (.ro T2 z102), .own 5 0], .map false I I z103]
def st_u28_0 (yield_5 : T4.T) (z00 : Int) (z100 : Int) (z101 : Int) (z102 : List (T2).T) (z103 : List ((I).T × (I).T)) (y0 : T4.T) (y1 : Int) : St := ⟨mkS 25 [(0, .own 0 0), (1, .ptr 2 0 0), (2, .ptr 3 0 0)], [(0, 0, .loop .ready none (rcAt Try.f9 8 [46]) (mkS 40 [(5, .ptr 1 0 0)])), (1, 0, .var 26 (rvs (enc T4 y0))), (2, 0, .var 3 [.r (.v (.int .i64 y1))]), (3, 0, .var 52 [.ptr 4 0 0]), (4, 0, .var 71 [.r (.v (.int .i64 z100)), .r (.v (.int .i64 z101)), .r (.ro T2 z102), .own 5 0]), (5, 0, .map false I I z103)]⟩
def f_u28_0 (k : Nat) (yield_5 : T4.T) (z00 : Int) (z100 : Int) (z101 : Int) (z102 : List (T2).T) (z103 : List ((I).T × (I).T)) : Nat → T4.T → Int → Option R_u28
 | 0, _, _ => none
 | j + 1, y0, y1 =>
 bif (y1 != (0 : Int)) then
 if ((0 : Int) ≤ (mget I y1 z103).getD (0 : Int)) ∧ ((mget I y1 z103).getD (0 : Int) < (↑z102.length : Int)) then
 if ((f_u2 k y0 (z102.getD (Int.toNat ((mget I y1 z103).getD 0)) T2.dflt)).isSome = true) then
 f_u28_0 k yield_5 z00 z100 z101 z102 z103 j ((v_u2 k y0 (z102.getD (Int.toNat ((mget I y1 z103).getD 0)) T2.dflt))) ((z102.getD (Int.toNat ((mget I y1 z103).getD 0)) T2.dflt).2.1)
 else none
 else none
 else
 some ((y0, y1))
def f_u28 (k : Nat) (yield_5 : T4.T) (z00 : Int) (z100 : Int) (z101 : Int) (z102 : List (T2).T) (z103 : List ((I).T × (I).T)) : Option R_u28 :=
 f_u28_0 k yield_5 z00 z100 z101 z102 z103 k yield_5 z00
def v_u28 (k : Nat) (yield_5 : T4.T) (z00 : Int) (z100 : Int) (z101 : Int) (z102 : List (T2).T) (z103 : List ((I).T × (I).T)) : R_u28 := (f_u28 k yield_5 z00 z100 z101 z102 z103).getD ((T4).dflt, 0)
def K_u28 (k : Nat) : Calld := ⟨fun g xs => match g with
 | 1000000 => match xs with
  | [_] => some [false]
  | _ => none
 | _ => none, fun g xs bs => match g with
 | 1000000 => match xs, bs with
  | [.agg qx0], [.loop _ _ _ qs, .var 26 qs5] => (decS [] T2 qx0).bind fun x0 => (decS [] T4 qs5).bind fun s5 => some (.one (res_u2 (v_u2 k s5 x0), bo_u2 s5 x0 (v_u2 k s5 x0)))
  | _, _ => none
 | _ => none⟩
theorem ev_u28 (k : Nat) (yield_5 : T4.T) (z00 : Int) (z100 : Int) (z101 : Int) (z102 : List (T2).T) (z103 : List ((I).T × (I).T)) : ∀ j, (∀ (y0 : T4.T) (y1 : Int) (r : R_u28), f_u28_0 k yield_5 z00 z100 z101 z102 z103 j y0 y1 = some r → Ev Try.prog Try.f35 6 (placeAt Try.f35 0) (st_u28_0 yield_5 z00 z100 z101 z102 z103 y0 y1) (res_u28 r) (bo_u28 yield_5 z00 z100 z101 z102 z103 r))
 | 0 => by
  intros; rename_i h; simp [f_u28_0] at h
 | j + 1 => by
  have ih := ev_u28 k yield_5 z00 z100 z101 z102 z103 j
  ·intro y0 y1 r h
   rw [f_u28_0] at h
   refine Ev.tree hm (R := Rt) (K := (K_u28 k)) (l := []) (C := [(0, [.autoB [0, 1, 2] false []])]) (E := [.autoB [] true []]) (n := 1000) (T := .test ((y1 != (0 : Int))) (.need [(0 : Int) ≤ (mget I y1 z103).getD (0 : Int), (mget I y1 z103).getD (0 : Int) < (↑z102.length : Int)] (.need [YC Try.prog (args_u2 y0 (z102.getD (Int.toNat ((mget I y1 z103).getD 0)) T2.dflt)) (bin_u2 y0 (z102.getD (Int.toNat ((mget I y1 z103).getD 0)) T2.dflt)) (res_u2 (v_u2 k y0 (z102.getD (Int.toNat ((mget I y1 z103).getD 0)) T2.dflt))) (bo_u2 y0 (z102.getD (Int.toNat ((mget I y1 z103).getD 0)) T2.dflt) (v_u2 k y0 (z102.getD (Int.toNat ((mget I y1 z103).getD 0)) T2.dflt)))] (.test (false) (.leaf (.tup []) [(0, .loop .ready none (rcAt Try.f9 8 [46]) (mkS 40 [(5, .ptr 1 0 0)])), (0, .var 26 (rvs (enc T4 ((v_u2 k y0 (z102.getD (Int.toNat ((mget I y1 z103).getD 0)) T2.dflt)))))), (0, .var 3 [.r (.v (.int .i64 y1))]), (0, .var 52 [.ptr 4 0 0]), (0, .var 71 [.r (.v (.int .i64 z100)), .r (.v (.int .i64 z101)), .r (.ro T2 z102), .own 5 0]), (0, .map false I I z103)]) (.cut 0 (placeAt Try.f35 0) (st_u28_0 yield_5 z00 z100 z101 z102 z103 ((v_u2 k y0 (z102.getD (Int.toNat ((mget I y1 z103).getD 0)) T2.dflt))) ((z102.getD (Int.toNat ((mget I y1 z103).getD 0)) T2.dflt).2.1)))))) (.leaf (res_u28 ((y0, y1))) (bo_u28 yield_5 z00 z100 z101 z102 z103 ((y0, y1))))) (by kernel_rfl) ?_
   refine ⟨fun c => ?_, fun c => ?_⟩
   ·rw [cond_t (show ((y1 != (0 : Int))) = true from c)] at h
    by_cases q : ((0 : Int) ≤ (mget I y1 z103).getD (0 : Int)) ∧ ((mget I y1 z103).getD (0 : Int) < (↑z102.length : Int))
    ·rw [if_pos q] at h
     refine ⟨(conjC q.1 (conjC q.2 conj0)), ?_⟩
     by_cases q : ((f_u2 k y0 (z102.getD (Int.toNat ((mget I y1 z103).getD 0)) T2.dflt)).isSome = true)
     ·rw [if_pos q] at h
      refine ⟨(conjC (cc_u2 k y0 (z102.getD (Int.toNat ((mget I y1 z103).getD 0)) T2.dflt) q) conj0), ?_⟩
      refine ⟨fun c => ?_, fun c => ?_⟩
      ·cases c
      exact ih ((v_u2 k y0 (z102.getD (Int.toNat ((mget I y1 z103).getD 0)) T2.dflt))) ((z102.getD (Int.toNat ((mget I y1 z103).getD 0)) T2.dflt).2.1) _ h
     ·rw [if_neg q] at h; cases h
    ·rw [if_neg q] at h; cases h
   ·rw [cond_f (show ((y1 != (0 : Int))) = false from c)] at h
    cases h; exact ⟨rfl, rfl⟩
theorem of_u28 (k : Nat) (yield_5 : T4.T) (z00 : Int) (z100 : Int) (z101 : Int) (z102 : List (T2).T) (z103 : List ((I).T × (I).T)) (r : R_u28) (h : f_u28 k yield_5 z00 z100 z101 z102 z103 = some r) : CC Try.prog 35 (args_u28 yield_5 z00 z100 z101 z102 z103) (bin_u28 yield_5 z00 z100 z101 z102 z103) (res_u28 r) (bo_u28 yield_5 z00 z100 z101 z102 z103 r) := by
 refine CC.of (fn := Try.f35) (by kernel_rfl) (by kernel_rfl) (by kernel_rfl) (by kernel_rfl) ?_
 unfold f_u28 at h
 refine Ev.tree hm (R := Rt) (K := (K_u28 k)) (l := []) (C := [(0, [.autoB [0, 1, 2] false []])]) (E := [.autoB [] true []]) (n := 1000) (T := .cut 0 (placeAt Try.f35 0) (st_u28_0 yield_5 z00 z100 z101 z102 z103 yield_5 z00)) (by kernel_rfl) ?_
 exact (ev_u28 k yield_5 z00 z100 z101 z102 z103 k) yield_5 z00 _ h
theorem cc_u28 (k : Nat) (yield_5 : T4.T) (z00 : Int) (z100 : Int) (z101 : Int) (z102 : List (T2).T) (z103 : List ((I).T × (I).T)) (h : (f_u28 k yield_5 z00 z100 z101 z102 z103).isSome = true) : CC Try.prog 35 (args_u28 yield_5 z00 z100 z101 z102 z103) (bin_u28 yield_5 z00 z100 z101 z102 z103) (res_u28 (v_u28 k yield_5 z00 z100 z101 z102 z103)) (bo_u28 yield_5 z00 z100 z101 z102 z103 (v_u28 k yield_5 z00 z100 z101 z102 z103)) := by
 cases e : f_u28 k yield_5 z00 z100 z101 z102 z103 with
 | none => rw [e] at h; cases h
 | some r => rw [show v_u28 k yield_5 z00 z100 z101 z102 z103 = r by simp [v_u28, e]]; exact of_u28 k yield_5 z00 z100 z101 z102 z103 r e

end
end Go.AM
namespace Go.AM
open Go Go.Proofs Go.IntKind
set_option linter.unusedVariables false
noncomputable section
abbrev R_u10 : Type := T4.T × Int
def res_u10 (r : R_u10) : AV := .tup [.agg (rvs (enc T4 r.1)), .r (.v (.int .i64 r.2))]
def bo_u10 (l_ : List (T2).T) (web_ : T5.T) (p_ : T4.T) (r : R_u10) : List (Nat × Blk) := []
def args_u10 (l_ : List (T2).T) (web_ : T5.T) (p_ : T4.T) : List AV := [.r (.ro T2 l_), .agg (rvs (enc T5 web_)), .agg (rvs (enc T4 p_))]
def bin_u10 (l_ : List (T2).T) (web_ : T5.T) (p_ : T4.T) : List Blk := []
def f_u10 (k : Nat) (l_ : List (T2).T) (web_ : T5.T) (p_ : T4.T) : Option R_u10 :=
 bif (Sum.isLeft (v_u13 k l_ web_ p_.1)) then
 if ((f_u13 k l_ web_ p_.1).isSome = true) then
 bif (vA_u13 k l_ web_ p_.1 != (0 : Int)) then
 some (((0, (0, 0)), vA_u13 k l_ web_ p_.1))
 else
 none
 else none
 else
 if ((f_u13 k l_ web_ p_.1).isSome = true) then
 bif ((vB_u13 k l_ web_ p_.1).1 != (0 : Int)) then
 some (((0, (0, 0)), (vB_u13 k l_ web_ p_.1).1))
 else
 if ((f_u25 k (vB_u13 k l_ web_ p_.1).2.1 (vB_u13 k l_ web_ p_.1).2.2.1 (vB_u13 k l_ web_ p_.1).2.2.2.1 (vB_u13 k l_ web_ p_.1).2.2.2.2 p_).isSome = true) then
 bif (v_u25 k (vB_u13 k l_ web_ p_.1).2.1 (vB_u13 k l_ web_ p_.1).2.2.1 (vB_u13 k l_ web_ p_.1).2.2.2.1 (vB_u13 k l_ web_ p_.1).2.2.2.2 p_ != (0 : Int)) then
 some (((0, (0, 0)), v_u25 k (vB_u13 k l_ web_ p_.1).2.1 (vB_u13 k l_ web_ p_.1).2.2.1 (vB_u13 k l_ web_ p_.1).2.2.2.1 (vB_u13 k l_ web_ p_.1).2.2.2.2 p_))
 else
 if ((f_u27 k (vB_u13 k l_ web_ p_.1).2.1 (vB_u13 k l_ web_ p_.1).2.2.1 (vB_u13 k l_ web_ p_.1).2.2.2.1 (vB_u13 k l_ web_ p_.1).2.2.2.2 p_.1).isSome = true) then
 if ((f_u28 k p_ (v_u27 k (vB_u13 k l_ web_ p_.1).2.1 (vB_u13 k l_ web_ p_.1).2.2.1 (vB_u13 k l_ web_ p_.1).2.2.2.1 (vB_u13 k l_ web_ p_.1).2.2.2.2 p_.1) (vB_u13 k l_ web_ p_.1).2.1 (vB_u13 k l_ web_ p_.1).2.2.1 (vB_u13 k l_ web_ p_.1).2.2.2.1 (vB_u13 k l_ web_ p_.1).2.2.2.2).isSome = true) then
 some (((v_u28 k p_ (v_u27 k (vB_u13 k l_ web_ p_.1).2.1 (vB_u13 k l_ web_ p_.1).2.2.1 (vB_u13 k l_ web_ p_.1).2.2.2.1 (vB_u13 k l_ web_ p_.1).2.2.2.2 p_.1) (vB_u13 k l_ web_ p_.1).2.1 (vB_u13 k l_ web_ p_.1).2.2.1 (vB_u13 k l_ web_ p_.1).2.2.2.1 (vB_u13 k l_ web_ p_.1).2.2.2.2).1, 0))
 else none
 else none
 else none
 else none
def v_u10 (k : Nat) (l_ : List (T2).T) (web_ : T5.T) (p_ : T4.T) : R_u10 := (f_u10 k l_ web_ p_).getD ((T4).dflt, 0)
def K_u10 (k : Nat) : Calld := ⟨fun g xs => match g with
 | 19 => match xs with
  | [_, _, _] => some [false, false, false]
  | _ => none
 | 20 => match xs with
  | [.ptr _ _ _, _] => some [true, false]
  | _ => none
 | 21 => match xs with
  | [.ptr _ _ _, _] => some [true, false]
  | _ => none
 | 22 => match xs with
  | [_, _] => some [false, false]
  | _ => none
 | 35 => match xs with
  | [.own _ _, .ptr _ _ _, .ptr _ _ _] => some [true, true, true]
  | _ => none
 | _ => none, fun g xs bs => match g with
 | 19 => match xs, bs with
  | [.r (.ro tl__ ql_), .agg qweb_, .r (.v (.int .i64 id_))], [] => (castL tl__ T2 ql_).bind fun l_ => (decS [] T5 qweb_).bind fun web_ => some (.two (v_u13 k l_ web_ id_).isLeft (resA_u13 (vA_u13 k l_ web_ id_), boA_u13 l_ web_ id_ (vA_u13 k l_ web_ id_)) (resB_u13 (vB_u13 k l_ web_ id_), boB_u13 l_ web_ id_ (vB_u13 k l_ web_ id_)))
  | _, _ => none
 | 20 => match xs, bs with
  | [.ptr 0 0 0, .agg qp_], [.var 71 [.r (.v (.int .i64 g_0)), .r (.v (.int .i64 g_1)), .r (.ro tg_2_ qg_2), .own 1 0], .map false kg_3_ tg_3_ qg_3] => (decS [] T4 qp_).bind fun p_ => (castL tg_2_ T2 qg_2).bind fun g_2 => (castM kg_3_ tg_3_ I I qg_3).bind fun g_3 => some (.one (res_u25 (v_u25 k g_0 g_1 g_2 g_3 p_), bo_u25 g_0 g_1 g_2 g_3 p_ (v_u25 k g_0 g_1 g_2 g_3 p_)))
  | _, _ => none
 | 21 => match xs, bs with
  | [.ptr 0 0 0, .r (.v (.int .i64 id_))], [.var 71 [.r (.v (.int .i64 g_0)), .r (.v (.int .i64 g_1)), .r (.ro tg_2_ qg_2), .own 1 0], .map false kg_3_ tg_3_ qg_3] => (castL tg_2_ T2 qg_2).bind fun g_2 => (castM kg_3_ tg_3_ I I qg_3).bind fun g_3 => some (.one (res_u27 (v_u27 k g_0 g_1 g_2 g_3 id_), bo_u27 g_0 g_1 g_2 g_3 id_ (v_u27 k g_0 g_1 g_2 g_3 id_)))
  | _, _ => none
 | 22 => match xs, bs with
  | [.agg qr_, .agg qp_], [] => (decS [] T2 qr_).bind fun r_ => (decS [] T4 qp_).bind fun p_ => some (.one (res_u16 (v_u16 k r_ p_), bo_u16 r_ p_ (v_u16 k r_ p_)))
  | _, _ => none
 | 35 => match xs, bs with
  | [.own 0 0, .ptr 2 0 0, .ptr 3 0 0], [.loop _ _ _ qyield_, .var 26 qyield_5, .var 3 [.r (.v (.int .i64 z00))], .var 52 [.ptr 4 0 0], .var 71 [.r (.v (.int .i64 z100)), .r (.v (.int .i64 z101)), .r (.ro tz102_ qz102), .own 5 0], .map false kz103_ tz103_ qz103] => (decS [] T4 qyield_5).bind fun yield_5 => (castL tz102_ T2 qz102).bind fun z102 => (castM kz103_ tz103_ I I qz103).bind fun z103 => some (.one (res_u28 (v_u28 k yield_5 z00 z100 z101 z102 z103), bo_u28 yield_5 z00 z100 z101 z102 z103 (v_u28 k yield_5 z00 z100 z101 z102 z103)))
  | _, _ => none
 | _ => none⟩
theorem of_u10 (k : Nat) (l_ : List (T2).T) (web_ : T5.T) (p_ : T4.T) (r : R_u10) (h : f_u10 k l_ web_ p_ = some r) : CC Try.prog 9 (args_u10 l_ web_ p_) (bin_u10 l_ web_ p_) (res_u10 r) (bo_u10 l_ web_ p_ r) := by
 refine CC.of (fn := Try.f9) (by kernel_rfl) (by kernel_rfl) (by kernel_rfl) (by kernel_rfl) ?_
 unfold f_u10 at h
 refine Ev.tree hm (R := Rt) (K := (K_u10 k)) (l := []) (C := []) (E := [.autoB [6, 7] true []]) (n := 1000) (T := .test ((Sum.isLeft (v_u13 k l_ web_ p_.1))) (.need [CC Try.prog 19 (args_u13 l_ web_ p_.1) (bin_u13 l_ web_ p_.1) (resA_u13 (vA_u13 k l_ web_ p_.1)) (boA_u13 l_ web_ p_.1 (vA_u13 k l_ web_ p_.1))] (.test ((vA_u13 k l_ web_ p_.1 != (0 : Int))) (.leaf (res_u10 (((0, (0, 0)), vA_u13 k l_ web_ p_.1))) (bo_u10 l_ web_ p_ (((0, (0, 0)), vA_u13 k l_ web_ p_.1)))) (.stuck 2002))) (.need [CC Try.prog 19 (args_u13 l_ web_ p_.1) (bin_u13 l_ web_ p_.1) (resB_u13 (vB_u13 k l_ web_ p_.1)) (boB_u13 l_ web_ p_.1 (vB_u13 k l_ web_ p_.1))] (.test (((vB_u13 k l_ web_ p_.1).1 != (0 : Int))) (.leaf (res_u10 (((0, (0, 0)), (vB_u13 k l_ web_ p_.1).1))) (bo_u10 l_ web_ p_ (((0, (0, 0)), (vB_u13 k l_ web_ p_.1).1)))) (.need [CC Try.prog 20 (args_u25 (vB_u13 k l_ web_ p_.1).2.1 (vB_u13 k l_ web_ p_.1).2.2.1 (vB_u13 k l_ web_ p_.1).2.2.2.1 (vB_u13 k l_ web_ p_.1).2.2.2.2 p_) (bin_u25 (vB_u13 k l_ web_ p_.1).2.1 (vB_u13 k l_ web_ p_.1).2.2.1 (vB_u13 k l_ web_ p_.1).2.2.2.1 (vB_u13 k l_ web_ p_.1).2.2.2.2 p_) (res_u25 (v_u25 k (vB_u13 k l_ web_ p_.1).2.1 (vB_u13 k l_ web_ p_.1).2.2.1 (vB_u13 k l_ web_ p_.1).2.2.2.1 (vB_u13 k l_ web_ p_.1).2.2.2.2 p_)) (bo_u25 (vB_u13 k l_ web_ p_.1).2.1 (vB_u13 k l_ web_ p_.1).2.2.1 (vB_u13 k l_ web_ p_.1).2.2.2.1 (vB_u13 k l_ web_ p_.1).2.2.2.2 p_ (v_u25 k (vB_u13 k l_ web_ p_.1).2.1 (vB_u13 k l_ web_ p_.1).2.2.1 (vB_u13 k l_ web_ p_.1).2.2.2.1 (vB_u13 k l_ web_ p_.1).2.2.2.2 p_))] (.test ((v_u25 k (vB_u13 k l_ web_ p_.1).2.1 (vB_u13 k l_ web_ p_.1).2.2.1 (vB_u13 k l_ web_ p_.1).2.2.2.1 (vB_u13 k l_ web_ p_.1).2.2.2.2 p_ != (0 : Int))) (.leaf (res_u10 (((0, (0, 0)), v_u25 k (vB_u13 k l_ web_ p_.1).2.1 (vB_u13 k l_ web_ p_.1).2.2.1 (vB_u13 k l_ web_ p_.1).2.2.2.1 (vB_u13 k l_ web_ p_.1).2.2.2.2 p_))) (bo_u10 l_ web_ p_ (((0, (0, 0)), v_u25 k (vB_u13 k l_ web_ p_.1).2.1 (vB_u13 k l_ web_ p_.1).2.2.1 (vB_u13 k l_ web_ p_.1).2.2.2.1 (vB_u13 k l_ web_ p_.1).2.2.2.2 p_)))) (.need [CC Try.prog 21 (args_u27 (vB_u13 k l_ web_ p_.1).2.1 (vB_u13 k l_ web_ p_.1).2.2.1 (vB_u13 k l_ web_ p_.1).2.2.2.1 (vB_u13 k l_ web_ p_.1).2.2.2.2 p_.1) (bin_u27 (vB_u13 k l_ web_ p_.1).2.1 (vB_u13 k l_ web_ p_.1).2.2.1 (vB_u13 k l_ web_ p_.1).2.2.2.1 (vB_u13 k l_ web_ p_.1).2.2.2.2 p_.1) (res_u27 (v_u27 k (vB_u13 k l_ web_ p_.1).2.1 (vB_u13 k l_ web_ p_.1).2.2.1 (vB_u13 k l_ web_ p_.1).2.2.2.1 (vB_u13 k l_ web_ p_.1).2.2.2.2 p_.1)) (bo_u27 (vB_u13 k l_ web_ p_.1).2.1 (vB_u13 k l_ web_ p_.1).2.2.1 (vB_u13 k l_ web_ p_.1).2.2.2.1 (vB_u13 k l_ web_ p_.1).2.2.2.2 p_.1 (v_u27 k (vB_u13 k l_ web_ p_.1).2.1 (vB_u13 k l_ web_ p_.1).2.2.1 (vB_u13 k l_ web_ p_.1).2.2.2.1 (vB_u13 k l_ web_ p_.1).2.2.2.2 p_.1))] (.need [CC Try.prog 35 (args_u28 p_ (v_u27 k (vB_u13 k l_ web_ p_.1).2.1 (vB_u13 k l_ web_ p_.1).2.2.1 (vB_u13 k l_ web_ p_.1).2.2.2.1 (vB_u13 k l_ web_ p_.1).2.2.2.2 p_.1) (vB_u13 k l_ web_ p_.1).2.1 (vB_u13 k l_ web_ p_.1).2.2.1 (vB_u13 k l_ web_ p_.1).2.2.2.1 (vB_u13 k l_ web_ p_.1).2.2.2.2) (bin_u28 p_ (v_u27 k (vB_u13 k l_ web_ p_.1).2.1 (vB_u13 k l_ web_ p_.1).2.2.1 (vB_u13 k l_ web_ p_.1).2.2.2.1 (vB_u13 k l_ web_ p_.1).2.2.2.2 p_.1) (vB_u13 k l_ web_ p_.1).2.1 (vB_u13 k l_ web_ p_.1).2.2.1 (vB_u13 k l_ web_ p_.1).2.2.2.1 (vB_u13 k l_ web_ p_.1).2.2.2.2) (res_u28 (v_u28 k p_ (v_u27 k (vB_u13 k l_ web_ p_.1).2.1 (vB_u13 k l_ web_ p_.1).2.2.1 (vB_u13 k l_ web_ p_.1).2.2.2.1 (vB_u13 k l_ web_ p_.1).2.2.2.2 p_.1) (vB_u13 k l_ web_ p_.1).2.1 (vB_u13 k l_ web_ p_.1).2.2.1 (vB_u13 k l_ web_ p_.1).2.2.2.1 (vB_u13 k l_ web_ p_.1).2.2.2.2)) (bo_u28 p_ (v_u27 k (vB_u13 k l_ web_ p_.1).2.1 (vB_u13 k l_ web_ p_.1).2.2.1 (vB_u13 k l_ web_ p_.1).2.2.2.1 (vB_u13 k l_ web_ p_.1).2.2.2.2 p_.1) (vB_u13 k l_ web_ p_.1).2.1 (vB_u13 k l_ web_ p_.1).2.2.1 (vB_u13 k l_ web_ p_.1).2.2.2.1 (vB_u13 k l_ web_ p_.1).2.2.2.2 (v_u28 k p_ (v_u27 k (vB_u13 k l_ web_ p_.1).2.1 (vB_u13 k l_ web_ p_.1).2.2.1 (vB_u13 k l_ web_ p_.1).2.2.2.1 (vB_u13 k l_ web_ p_.1).2.2.2.2 p_.1) (vB_u13 k l_ web_ p_.1).2.1 (vB_u13 k l_ web_ p_.1).2.2.1 (vB_u13 k l_ web_ p_.1).2.2.2.1 (vB_u13 k l_ web_ p_.1).2.2.2.2))] (.leaf (res_u10 (((v_u28 k p_ (v_u27 k (vB_u13 k l_ web_ p_.1).2.1 (vB_u13 k l_ web_ p_.1).2.2.1 (vB_u13 k l_ web_ p_.1).2.2.2.1 (vB_u13 k l_ web_ p_.1).2.2.2.2 p_.1) (vB_u13 k l_ web_ p_.1).2.1 (vB_u13 k l_ web_ p_.1).2.2.1 (vB_u13 k l_ web_ p_.1).2.2.2.1 (vB_u13 k l_ web_ p_.1).2.2.2.2).1, 0))) (bo_u10 l_ web_ p_ (((v_u28 k p_ (v_u27 k (vB_u13 k l_ web_ p_.1).2.1 (vB_u13 k l_ web_ p_.1).2.2.1 (vB_u13 k l_ web_ p_.1).2.2.2.1 (vB_u13 k l_ web_ p_.1).2.2.2.2 p_.1) (vB_u13 k l_ web_ p_.1).2.1 (vB_u13 k l_ web_ p_.1).2.2.1 (vB_u13 k l_ web_ p_.1).2.2.2.1 (vB_u13 k l_ web_ p_.1).2.2.2.2).1, 0))))))))))) (by kernel_rfl) ?_
 refine ⟨fun c => ?_, fun c => ?_⟩
 ·rw [cond_t (show ((Sum.isLeft (v_u13 k l_ web_ p_.1))) = true from c)] at h
  by_cases q : ((f_u13 k l_ web_ p_.1).isSome = true)
  ·rw [if_pos q] at h
   refine ⟨(conjC (ccA_u13 k l_ web_ p_.1 q (by assumption)) conj0), ?_⟩
   refine ⟨fun c => ?_, fun c => ?_⟩
   ·rw [cond_t (show ((vA_u13 k l_ web_ p_.1 != (0 : Int))) = true from c)] at h
    cases h; exact ⟨rfl, rfl⟩
   ·rw [cond_f (show ((vA_u13 k l_ web_ p_.1 != (0 : Int))) = false from c)] at h
    cases h
  ·rw [if_neg q] at h; cases h
 ·rw [cond_f (show ((Sum.isLeft (v_u13 k l_ web_ p_.1))) = false from c)] at h
  by_cases q : ((f_u13 k l_ web_ p_.1).isSome = true)
  ·rw [if_pos q] at h
   refine ⟨(conjC (ccB_u13 k l_ web_ p_.1 q (by assumption)) conj0), ?_⟩
   refine ⟨fun c => ?_, fun c => ?_⟩
   ·rw [cond_t (show (((vB_u13 k l_ web_ p_.1).1 != (0 : Int))) = true from c)] at h
    cases h; exact ⟨rfl, rfl⟩
   ·rw [cond_f (show (((vB_u13 k l_ web_ p_.1).1 != (0 : Int))) = false from c)] at h
    by_cases q : ((f_u25 k (vB_u13 k l_ web_ p_.1).2.1 (vB_u13 k l_ web_ p_.1).2.2.1 (vB_u13 k l_ web_ p_.1).2.2.2.1 (vB_u13 k l_ web_ p_.1).2.2.2.2 p_).isSome = true)
    ·rw [if_pos q] at h
     refine ⟨(conjC (cc_u25 k (vB_u13 k l_ web_ p_.1).2.1 (vB_u13 k l_ web_ p_.1).2.2.1 (vB_u13 k l_ web_ p_.1).2.2.2.1 (vB_u13 k l_ web_ p_.1).2.2.2.2 p_ q) conj0), ?_⟩
     refine ⟨fun c => ?_, fun c => ?_⟩
     ·rw [cond_t (show ((v_u25 k (vB_u13 k l_ web_ p_.1).2.1 (vB_u13 k l_ web_ p_.1).2.2.1 (vB_u13 k l_ web_ p_.1).2.2.2.1 (vB_u13 k l_ web_ p_.1).2.2.2.2 p_ != (0 : Int))) = true from c)] at h
      cases h; exact ⟨rfl, rfl⟩
     ·rw [cond_f (show ((v_u25 k (vB_u13 k l_ web_ p_.1).2.1 (vB_u13 k l_ web_ p_.1).2.2.1 (vB_u13 k l_ web_ p_.1).2.2.2.1 (vB_u13 k l_ web_ p_.1).2.2.2.2 p_ != (0 : Int))) = false from c)] at h
      by_cases q : ((f_u27 k (vB_u13 k l_ web_ p_.1).2.1 (vB_u13 k l_ web_ p_.1).2.2.1 (vB_u13 k l_ web_ p_.1).2.2.2.1 (vB_u13 k l_ web_ p_.1).2.2.2.2 p_.1).isSome = true)
      ·rw [if_pos q] at h
       refine ⟨(conjC (cc_u27 k (vB_u13 k l_ web_ p_.1).2.1 (vB_u13 k l_ web_ p_.1).2.2.1 (vB_u13 k l_ web_ p_.1).2.2.2.1 (vB_u13 k l_ web_ p_.1).2.2.2.2 p_.1 q) conj0), ?_⟩
       by_cases q : ((f_u28 k p_ (v_u27 k (vB_u13 k l_ web_ p_.1).2.1 (vB_u13 k l_ web_ p_.1).2.2.1 (vB_u13 k l_ web_ p_.1).2.2.2.1 (vB_u13 k l_ web_ p_.1).2.2.2.2 p_.1) (vB_u13 k l_ web_ p_.1).2.1 (vB_u13 k l_ web_ p_.1).2.2.1 (vB_u13 k l_ web_ p_.1).2.2.2.1 (vB_u13 k l_ web_ p_.1).2.2.2.2).isSome = true)
       ·rw [if_pos q] at h
        refine ⟨(conjC (cc_u28 k p_ (v_u27 k (vB_u13 k l_ web_ p_.1).2.1 (vB_u13 k l_ web_ p_.1).2.2.1 (vB_u13 k l_ web_ p_.1).2.2.2.1 (vB_u13 k l_ web_ p_.1).2.2.2.2 p_.1) (vB_u13 k l_ web_ p_.1).2.1 (vB_u13 k l_ web_ p_.1).2.2.1 (vB_u13 k l_ web_ p_.1).2.2.2.1 (vB_u13 k l_ web_ p_.1).2.2.2.2 q) conj0), ?_⟩
        cases h; exact ⟨rfl, rfl⟩
       ·rw [if_neg q] at h; cases h
      ·rw [if_neg q] at h; cases h
    ·rw [if_neg q] at h; cases h
  ·rw [if_neg q] at h; cases h
theorem cc_u10 (k : Nat) (l_ : List (T2).T) (web_ : T5.T) (p_ : T4.T) (h : (f_u10 k l_ web_ p_).isSome = true) : CC Try.prog 9 (args_u10 l_ web_ p_) (bin_u10 l_ web_ p_) (res_u10 (v_u10 k l_ web_ p_)) (bo_u10 l_ web_ p_ (v_u10 k l_ web_ p_)) := by
 cases e : f_u10 k l_ web_ p_ with
 | none => rw [e] at h; cases h
 | some r => rw [show v_u10 k l_ web_ p_ = r by simp [v_u10, e]]; exact of_u10 k l_ web_ p_ r e

end
end Go.AM
namespace Go.AM
open Go Go.Proofs

/-- the error of a number in a register -/
def errS (l : List Ro) (W L id : Int) : Int := if checkS l W L ≠ 0 then checkS l W L else if id ≠ 0 ∧ look l id = none then 7 else 0
structure Kno (l : List Ro) (W L id : Int) : Prop where
  reg : Reg l W L
  kn : id = 0 ∨ ∃ q, look l id = some q
theorem errS_zero {l : List Ro} {W L id : Int} : errS l W L id = 0 ↔ Kno l W L id := by
  unfold errS
  constructor
  · intro h
    by_cases h1 : checkS l W L = 0
    · rw [if_neg (fun h : checkS l W L ≠ 0 => h h1)] at h
      refine ⟨checkS_zero.1 h1, ?_⟩
      by_cases h2 : id = 0
      · exact .inl h2
      · right
        cases e : look l id with
        | none => rw [if_pos ⟨h2, e⟩] at h; omega
        | some q => exact ⟨q, rfl⟩
    · rw [if_pos h1] at h; exact absurd h h1
  · rintro ⟨h1, h2⟩
    rw [if_neg (fun h : checkS l W L ≠ 0 => h (checkS_zero.2 h1)), if_neg (fun h : id ≠ 0 ∧ look l id = none => by
      rcases h2 with h2 | ⟨q, h2⟩
      · exact h.1 h2
      · rw [h2] at h; cases h.2)]

theorem fam_find (k : Nat) (hk : 300000 ≤ k) (l : List Ro) (web : Int × Int) (id : Int) : (errS l web.1 web.2 id ≠ 0 → f_u13 k l web id = some (.inl (errS l web.1 web.2 id))) ∧ (errS l web.1 web.2 id = 0 → ∃ M, RegOk M l ∧ Wl l ∧ f_u13 k l web id = some (.inr (0, web.1, web.2, l, M))) := by
  obtain ⟨h1, h2⟩ := fam_open k hk l web
  by_cases h : checkS l web.1 web.2 = 0
  · obtain ⟨M, m1, m2, e⟩ := h2 h
    have hX : f_u13 k l web id = bif ((0 : Int) == 0 && id != 0) then (if (((0 : Int) == 0 && id != 0) = true) ∧ ((f_u23 k web.1 web.2 l M id).isSome = true) then (bif (true && !v_u23 k web.1 web.2 l M id) then some (.inl 7) else some (.inr (0, web.1, web.2, l, M))) else none) else (if (((0 : Int) == 0 && id != 0) = false) then some (.inr (0, web.1, web.2, l, M)) else none) := by
      unfold f_u13 vA_u14 vB_u14 v_u14
      rw [e]; rfl
    have hkn : v_u23 k web.1 web.2 l M id = (mget I id M).isSome := by unfold v_u23 f_u23; rfl
    rw [hX, hkn]
    unfold errS
    rw [if_neg (fun h' : checkS l web.1 web.2 ≠ 0 => h' h)]
    by_cases h0 : id = 0
    · rw [show ((0 : Int) == 0 && id != 0) = false by simp [h0], cond_false, if_pos rfl, if_neg (fun h' : id ≠ 0 ∧ look l id = none => h'.1 h0)]
      exact ⟨fun h => absurd rfl h, fun _ => ⟨M, m1, m2, rfl⟩⟩
    · rw [show ((0 : Int) == 0 && id != 0) = true by simp [h0], cond_true, if_pos (show true = true ∧ (f_u23 k web.1 web.2 l M id).isSome = true from ⟨rfl, rfl⟩)]
      cases e : look l id with
      | none =>
        rw [(m1 id).none e, if_pos (show id ≠ 0 ∧ (none : Option Ro) = none from ⟨h0, rfl⟩)]
        exact ⟨fun _ => rfl, fun h => absurd h (by decide)⟩
      | some q =>
        obtain ⟨i, e1, e2, e3⟩ := (m1 id).some e
        rw [e1, if_neg (fun h : id ≠ 0 ∧ some q = none => nomatch h.2)]
        exact ⟨fun h => absurd rfl h, fun _ => ⟨M, m1, m2, rfl⟩⟩
  · have hX : f_u13 k l web id = bif (checkS l web.1 web.2 == 0 && id != 0) then none else if (checkS l web.1 web.2 == 0 && id != 0) = false then some (.inl (checkS l web.1 web.2)) else none := by
      unfold f_u13 vA_u14 vB_u14 v_u14
      rw [h1 h]; rfl
    rw [hX]
    unfold errS
    rw [if_pos h, show (checkS l web.1 web.2 == 0) = false from beq_false_of_ne h, Bool.false_and, cond_false, if_pos rfl]
    exact ⟨fun _ => rfl, fun h' => absurd h' h⟩

theorem fam_size (k : Nat) (hk : 2100 ≤ k) (W L : Int) (l : List Ro) (M : List (Int × Int)) (id : Int) (hp : Wl l) (hM : RegOk M l) (h : id = 0 ∨ ∃ q, look l id = some q) : f_u26 k W L l M id = some (sizeS l W L id) ∧ v_u26 k W L l M id = sizeS l W L id := by
  have a := fam_size_s k hk W L l [] M id hp hM h
  have b := fam_size_v k hk W L l [] M id hp hM h
  rw [List.append_nil] at a b
  exact ⟨a, b⟩
/-! ### points on rolls -/
theorem on_test (a n : Int) : (decide (a < 0) || decide (a ≥ n)) = decide (a < 0 ∨ a ≥ n) := by
  by_cases h1 : a < 0
  · rw [decide_eq_true h1, decide_eq_true (Or.inl h1), Bool.true_or]
  · rw [decide_eq_false h1, Bool.false_or]
    by_cases h2 : a ≥ n
    · rw [decide_eq_true h2, decide_eq_true (Or.inr h2)]
    · rw [decide_eq_false h2, decide_eq_false (fun h => by rcases h with h | h; exact h1 h; exact h2 h)]
theorem on_bif (l : List Ro) (W L : Int) (p : Pt) : (bif (decide (p.2.1 < 0) || decide (p.2.1 ≥ (sizeS l W L p.1).1)) then some 20 else bif (decide (p.2.2 < 0) || decide (p.2.2 ≥ (sizeS l W L p.1).2)) then some 21 else some 0) = some (onS l W L p) := by
  unfold onS
  rw [on_test, on_test]
  by_cases h1 : p.2.1 < 0 ∨ p.2.1 ≥ (sizeS l W L p.1).1
  · rw [decide_eq_true h1, if_pos h1]; rfl
  · rw [decide_eq_false h1, if_neg h1, cond_false]
    by_cases h2 : p.2.2 < 0 ∨ p.2.2 ≥ (sizeS l W L p.1).2
    · rw [decide_eq_true h2, if_pos h2]; rfl
    · rw [decide_eq_false h2, if_neg h2]; rfl
theorem fam_on_s (k : Nat) (hk : 2100 ≤ k) (W L : Int) (l : List Ro) (M : List (Int × Int)) (p : Pt) (hp : Wl l) (hM : RegOk M l) (h : p.1 = 0 ∨ ∃ q, look l p.1 = some q) : f_u25 k W L l M p = some (onS l W L p) := by
  obtain ⟨a, b⟩ := fam_size k hk W L l M p.1 hp hM h
  unfold f_u25
  rw [a, b, Option.isSome_some, if_pos rfl]
  exact on_bif l W L p
theorem fam_on_v (k : Nat) (hk : 2100 ≤ k) (W L : Int) (l : List Ro) (M : List (Int × Int)) (p : Pt) (hp : Wl l) (hM : RegOk M l) (h : p.1 = 0 ∨ ∃ q, look l p.1 = some q) : v_u25 k W L l M p = onS l W L p := by
  unfold v_u25; rw [fam_on_s k hk W L l M p hp hM h]; rfl
def onE (l : List Ro) (W L : Int) (p : Pt) : Int := if errS l W L p.1 ≠ 0 then errS l W L p.1 else onS l W L p
/-! ### a point in the parent -/
theorem slit_Place_s (k : Nat) (hk : 304 ≤ k) (c : Ch) (x y : Int) (h0 : 0 ≤ c.1) (h1 : 1 ≤ c.2.1) (h2 : c.1 + c.2.1 ≤ 12000) (h3 : Chk c.2.2.2) (x0 : 0 ≤ x) (x1 : x < c.2.1) (y0 : 0 ≤ y) (y1 : y < lenS c.2.2.2) :
    f_u60 k c x y = some ((if c.2.2.1 = true then c.1 + c.2.1 - 1 - x else c.1 + x), imgAt c.2.2.2 y, 0) := by
  have hl := h3.len
  have hlies : f_u62 k (c.1, c.2.1) 12000 = some true := by
    unfold f_u62
    show some (decide (c.1 ≥ 0) && decide (c.2.1 ≥ 1) && decide (c.1 ≤ 12000) && decide (c.2.1 ≤ IntKind.i64.wrap (12000 - c.1))) = _
    rw [wrap_id (by omega) (by omega), decide_eq_true (by omega : c.1 ≥ 0), decide_eq_true (by omega : c.2.1 ≥ 1), decide_eq_true (by omega : c.1 ≤ 12000), decide_eq_true (by omega : c.2.1 ≤ 12000 - c.1)]; rfl
  have ht : f_u61 k c = some (.inr (c.1, c.2.1, !c.2.2.1, 0, c.2.2.2)) := by
    unfold f_u61 v_u62
    rw [hlies, iso_Check_s k (by omega), iso_Check_v k (by omega), chk_zero.2 h3]
    show (if (f_u54 k c.2.2.2).isSome = true then some (Sum.inr (c.1, c.2.1, !c.2.2.1, (0 : Int), v_u54 k c.2.2.2)) else none) = _
    have hc : f_u54 k c.2.2.2 = some c.2.2.2 := by unfold f_u54; rw [if_pos (by omega)]
    unfold v_u54
    rw [hc]; rfl
  have hat : atS c.2.2.2 y = (imgAt c.2.2.2 y, 0) := by unfold atS; rw [if_neg (fun h => h (chk_zero.2 h3)), if_neg (by omega)]
  unfold f_u60 vB_u61 v_u61
  rw [ht]
  show (bif (decide (x < (0 : Int)) || decide (x ≥ c.2.1)) then _ else if (f_u29 k c.2.2.2 y).isSome = true then (bif ((v_u29 k c.2.2.2 y).2 != 0) then _ else bif c.2.2.1 then some (IntKind.i64.wrap (c.1 + IntKind.i64.wrap (IntKind.i64.wrap (c.2.1 - 1) - x)), (v_u29 k c.2.2.2 y).1, (0 : Int)) else some (IntKind.i64.wrap (c.1 + x), (v_u29 k c.2.2.2 y).1, (0 : Int))) else none) = _
  rw [decide_eq_false (by omega : ¬ x < 0), decide_eq_false (by omega : ¬ x ≥ c.2.1), Bool.or_false, cond_false, iso_At_s k hk, iso_At_v k hk, hat]
  show (bif c.2.2.1 then some (IntKind.i64.wrap (c.1 + IntKind.i64.wrap (IntKind.i64.wrap (c.2.1 - 1) - x)), imgAt c.2.2.2 y, (0 : Int)) else some (IntKind.i64.wrap (c.1 + x), imgAt c.2.2.2 y, (0 : Int))) = _
  rw [wrap_id (i := c.2.1 - 1) (by omega) (by omega), wrap_id (i := c.2.1 - 1 - x) (by omega) (by omega), wrap_id (i := c.1 + (c.2.1 - 1 - x)) (by omega) (by omega), wrap_id (i := c.1 + x) (by omega) (by omega)]
  cases c.2.2.1
  · rfl
  · rw [cond_true, if_pos rfl, show c.1 + (c.2.1 - 1 - x) = c.1 + c.2.1 - 1 - x by omega]
theorem fam_parent_s (k : Nat) (hk : 304 ≤ k) (r : Ro) (p : Pt) (s : Small r.2.2) (x0 : 0 ≤ p.2.1) (x1 : p.2.1 < r.2.2.2.1) (y0 : 0 ≤ p.2.2) (y1 : p.2.2 < lenS r.2.2.2.2.2) : f_u16 k r p = some (placeS r p) := by
  obtain ⟨a, b, c, d⟩ := s
  have h := slit_Place_s k hk r.2.2 p.2.1 p.2.2 a b c d x0 x1 y0 y1
  unfold f_u16 v_u60
  rw [h]; rfl
theorem fam_parent_v (k : Nat) (hk : 304 ≤ k) (r : Ro) (p : Pt) (s : Small r.2.2) (x0 : 0 ≤ p.2.1) (x1 : p.2.1 < r.2.2.2.1) (y0 : 0 ≤ p.2.2) (y1 : p.2.2 < lenS r.2.2.2.2.2) : v_u16 k r p = placeS r p := by
  unfold v_u16; rw [fam_parent_s k hk r p s x0 x1 y0 y1]; rfl
theorem Reg.wl {l : List Ro} {W L : Int} (h : Reg l W L) : Wl l := fun r hr => by
  have ro := h.ok.ro r hr
  obtain ⟨c1, c2, c3, c4, _⟩ := ro.cut
  have := h.small 512 r.2.1 (h.anc ro.parent)
  exact ⟨c1, c2, by omega, c4⟩

/-- the size of a roll that is known -/
theorem size_some {l : List Ro} {W L id : Int} {r : Ro} (h0 : id ≠ 0) (e : look l id = some r) : sizeS l W L id = (r.2.2.2.1, lenS r.2.2.2.2.2) := by
  unfold sizeS; rw [if_neg h0, e]

def upS (l : List Ro) (W L : Int) (p : Pt) : Pt × Int :=
  if errS l W L p.1 ≠ 0 then ((0, 0, 0), errS l W L p.1) else if p.1 = 0 then ((0, 0, 0), 7) else if onS l W L p ≠ 0 then ((0, 0, 0), onS l W L p)
  else match look l p.1 with
    | none => ((0, 0, 0), 0)
    | some r => (placeS r p, 0)
theorem fam_Up_s (k : Nat) (hk : 300000 ≤ k) (l : List Ro) (web : Int × Int) (p : Pt) : f_u9 k l web p = some (upS l web.1 web.2 p) := by
  obtain ⟨h1, h2⟩ := fam_find k hk l web p.1
  unfold f_u9 vA_u13 vB_u13 v_u13 upS
  by_cases h : errS l web.1 web.2 p.1 = 0
  · obtain ⟨M, m1, m2, e⟩ := h2 h
    have kn := (errS_zero.1 h).kn
    have a := fam_on_s k (by omega) web.1 web.2 l M p m2 m1 kn
    have b := fam_on_v k (by omega) web.1 web.2 l M p m2 m1 kn
    rw [e, if_neg (fun h' : errS l web.1 web.2 p.1 ≠ 0 => h' h)]
    show (bif (p.1 == 0) then some (((0 : Int), ((0 : Int), (0 : Int))), (7 : Int)) else if (f_u25 k web.1 web.2 l M p).isSome = true then (bif (v_u25 k web.1 web.2 l M p != 0) then some (((0 : Int), ((0 : Int), (0 : Int))), v_u25 k web.1 web.2 l M p) else if ((0 : Int) ≤ (mget I p.1 M).getD 0) ∧ ((mget I p.1 M).getD 0 < (l.length : Int)) ∧ ((f_u16 k (l.getD (Int.toNat ((mget I p.1 M).getD 0)) T2.dflt) p).isSome = true) then some (v_u16 k (l.getD (Int.toNat ((mget I p.1 M).getD 0)) T2.dflt) p, (0 : Int)) else none) else none) = _
    by_cases h0 : p.1 = 0
    · rw [show (p.1 == 0) = true from beq_iff_eq.2 h0, if_pos h0]; rfl
    · rw [show (p.1 == 0) = false from beq_false_of_ne h0, if_neg h0, cond_false, a, b, Option.isSome_some, if_pos rfl]
      by_cases ho : onS l web.1 web.2 p = 0
      · rw [if_neg (fun h' : onS l web.1 web.2 p ≠ 0 => h' ho), ho]
        rcases kn with kn | ⟨q, kn⟩
        · exact absurd kn h0
        · obtain ⟨x, e1, e2, e3⟩ := (m1 p.1).some kn
          have on := onS_zero.1 ho
          obtain ⟨a0, a1, b0, b1⟩ := on
          rw [size_some h0 kn] at a1 b1
          have hs := m2 q (look_some kn).1
          rw [e1, Option.getD_some, Int.toNat_natCast, e3, fam_parent_s k (by omega) q p hs a0 a1 b0 b1, fam_parent_v k (by omega) q p hs a0 a1 b0 b1, if_pos ⟨by omega, by omega, rfl⟩, kn]
          rfl
      · rw [if_pos ho, bne_iff_ne.2 ho]; rfl
  · rw [h1 h, if_pos h]
    show (bif (errS l web.1 web.2 p.1 != 0) then _ else _) = _
    rw [bne_iff_ne.2 h]; rfl
theorem fam_Up_v (k : Nat) (hk : 300000 ≤ k) (l : List Ro) (web : Int × Int) (p : Pt) : v_u9 k l web p = upS l web.1 web.2 p := by
  unfold v_u9; rw [fam_Up_s k hk l web p]; rfl
/-! ### points in the web -/
theorem fam_up_l (k : Nat) (hk : 304 ≤ k) (W L : Int) (l : List Ro) (reg : Reg l W L) (M : List (Int × Int)) (hM : RegOk M l) (p0 : Pt) (z : Int) : ∀ (n : Nat) (p : Pt) (j : Nat), Anc l n p.1 → On l W L p → n < j →
    f_u28_0 k p0 z W L l M j p p.1 = some (webS l n p, 0) := by
  intro n
  induction n with
  | zero =>
    intro p j ha ho hj
    obtain ⟨j, rfl⟩ : ∃ q, j = q + 1 := ⟨j - 1, by omega⟩
    have h0 : p.1 = 0 := by
      generalize hp : p.1 = id at ha
      cases ha with
      | root => rfl
    rw [f_u28_0, h0]; rfl
  | succ n ih =>
    intro p j ha ho hj
    obtain ⟨j, rfl⟩ : ∃ q, j = q + 1 := ⟨j - 1, by omega⟩
    rw [f_u28_0]
    by_cases h0 : p.1 = 0
    · rw [h0]
      unfold webS
      rw [if_pos h0]; rfl
    · unfold webS
      rw [if_neg h0, bne_iff_ne.2 h0, cond_true]
      have hx : ∃ r, look l p.1 = some r ∧ Anc l n r.2.1 := by
        generalize hp : p.1 = id at ha
        cases ha with
        | root => exact absurd hp h0
        | step _ _ r _ e a => exact ⟨r, e, a⟩
      obtain ⟨r, e, a⟩ := hx
      have hr := (look_some e).1
      have ho2 := ho.place h0 e (reg.ok.ro r hr)
      obtain ⟨x, e1, e2, e3⟩ := (hM p.1).some e
      obtain ⟨a0, a1, b0, b1⟩ := ho
      rw [size_some h0 e] at a1 b1
      have hs := reg.wl r hr
      have hx : (x : Int) < (l.length : Int) := by omega
      have hf : f_u2 k p r = some (placeS r p) := by
        unfold f_u2
        rw [fam_parent_s k hk r p hs a0 a1 b0 b1, fam_parent_v k hk r p hs a0 a1 b0 b1]; rfl
      have hv : v_u2 k p r = placeS r p := by unfold v_u2; rw [hf]; rfl
      rw [e, e1, Option.getD_some, Int.toNat_natCast, e3, hf, hv, if_pos ⟨by omega, hx⟩, Option.isSome_some, if_pos rfl]
      exact ih (placeS r p) j a ho2 (by omega)
def webE (l : List Ro) (W L : Int) (p : Pt) : Pt × Int := if onE l W L p ≠ 0 then ((0, 0, 0), onE l W L p) else (webS l 512 p, 0)
theorem fam_Web_s (k : Nat) (hk : 300000 ≤ k) (l : List Ro) (web : Int × Int) (p : Pt) : f_u10 k l web p = some (webE l web.1 web.2 p) := by
  obtain ⟨h1, h2⟩ := fam_find k hk l web p.1
  unfold f_u10 vA_u13 vB_u13 v_u13 webE onE
  by_cases h : errS l web.1 web.2 p.1 = 0
  · obtain ⟨M, m1, m2, e⟩ := h2 h
    obtain ⟨reg, kn⟩ := errS_zero.1 h
    have a := fam_on_s k (by omega) web.1 web.2 l M p m2 m1 kn
    have b := fam_on_v k (by omega) web.1 web.2 l M p m2 m1 kn
    have hi : ¬ (errS l web.1 web.2 p.1 ≠ 0) := fun h' => h' h
    rw [e, if_neg hi]
    show (if (f_u25 k web.1 web.2 l M p).isSome = true then (bif (v_u25 k web.1 web.2 l M p != 0) then some (((0 : Int), ((0 : Int), (0 : Int))), v_u25 k web.1 web.2 l M p) else if (f_u27 k web.1 web.2 l M p.1).isSome = true then (if (f_u28 k p (v_u27 k web.1 web.2 l M p.1) web.1 web.2 l M).isSome = true then some ((v_u28 k p (v_u27 k web.1 web.2 l M p.1) web.1 web.2 l M).1, (0 : Int)) else none) else none) else none) = _
    rw [a, b, Option.isSome_some, if_pos rfl]
    by_cases ho : onS l web.1 web.2 p = 0
    · have hu : f_u28 k p (v_u27 k web.1 web.2 l M p.1) web.1 web.2 l M = some (webS l 512 p, 0) := by
        unfold f_u28
        exact fam_up_l k (by omega) web.1 web.2 l reg M m1 p _ 512 p k (reg.anc kn) (onS_zero.1 ho) (by omega)
      unfold v_u28
      rw [hu, ho]; rfl
    · rw [if_pos ho, bne_iff_ne.2 ho]; rfl
  · rw [h1 h, if_pos h, if_pos h]
    show (bif (errS l web.1 web.2 p.1 != 0) then _ else _) = _
    rw [bne_iff_ne.2 h]; rfl
theorem fam_Web_v (k : Nat) (hk : 300000 ≤ k) (l : List Ro) (web : Int × Int) (p : Pt) : v_u10 k l web p = webE l web.1 web.2 p := by
  unfold v_u10; rw [fam_Web_s k hk l web p]; rfl
end Go.AM
