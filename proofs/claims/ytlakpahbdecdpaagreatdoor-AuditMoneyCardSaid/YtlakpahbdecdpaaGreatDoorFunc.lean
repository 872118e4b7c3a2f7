/- Contracts of the functions that the law reaches, and the plain law. -/
import Derived.Test.YtlakpahbdecdpaaGreatDoorFunb
set_option linter.unusedVariables false
set_option linter.unusedSimpArgs false
set_option linter.unusedSectionVars false
open Bool renaming and_eq_true → qh, and_false → XT, false_and → wE, false_eq_true → qE, false_or → vH, not_false → qS1, not_true → ve, or_eq_false_iff → v6, or_eq_true → qGc, or_true → qS2, true_and → wH, true_or → vA
open Int renaming le_refl → V6, toNat → ql, toNat_natCast → qe
open List renaming all_eq_true → vB, append_assoc → qeY, append_nil → zH, cons_append → qne, drop → Wm, drop_of_length_le → qo, drop_zero → wv, getD → qI, length → qb, length_append → qT, length_cons → wB, length_singleton → qz, length_take → WZ, mem_append → zX, mem_cons → qK, nil_append → wk, pairwise_cons → zR, take → qS3, take_append_drop → qlu, take_of_length_le → zj
open Nat renaming le_refl → qR
open Option renaming getD_some → qMF, isSome_some → qd
open Go.IntKind renaming wrap → qa
namespace Go.AM
open Go
theorem Yn {r : Rn} : good r ↔ 1 ≤ r.2.1 ∧ 0 ≤ lo r ∧ hi r < 17179869184 := by
 unfold good lo hi
 cases r.2.2
 ·simp only [qE, if_false]
  constructor
  ·rintro ⟨h1, h2, h3, h4, _, h6⟩
   have := h6 trivial
   omega
  ·rintro ⟨h1, h2, h3⟩
   refine ⟨by omega, by omega, by omega, by omega, fun h => h.elim, fun _ => by omega⟩
 ·simp only [if_true]
  constructor
  ·rintro ⟨h1, h2, h3, h4, h5, _⟩
   have := h5 trivial
   omega
  ·rintro ⟨h1, h2, h3⟩
   refine ⟨by omega, by omega, by omega, by omega, fun _ => by omega, fun h => by cases h⟩
theorem zL : ∀ (a b : List Rn) (x : Int), goods a → 0 ≤ x → q9 (a ++ b) x = if x < qp a then q9 a x else q9 b (x - qp a)
 | [], b, x, _, h0 => by simp only [wk, qp, qi (by omega : ¬ x < 0), Int.sub_zero]
 | r :: t, b, x, hg, h0 => by
  have hr := hg.1.1
  have ht := zg hg.2
  show (if x < r.2.1 then wd r x else q9 (t ++ b) (x - r.2.1)) = if x < r.2.1 + qp t then (if x < r.2.1 then wd r x else q9 t (x - r.2.1)) else q9 b (x - (r.2.1 + qp t))
  by_cases h : x < r.2.1
  ·rw [qc h, qc (by omega), qc h]
  ·rw [qi h, zL t b _ hg.2 (by omega)]
   by_cases h2 : x - r.2.1 < qp t
   ·rw [qc h2, qc (by omega), qi h]
   ·rw [qi h2, qi (by omega), Int.sub_sub]
theorem qez {r : Rn} {x n y : Int} (h0 : 0 ≤ y) (h1 : y < n) : wd (wG r x n) y = wd r (x + y) := by
 unfold wG wd
 by_cases h : n > 1
 ·rw [qw h, Bool.and_true]
  cases r.2.2 <;> simp only [qE, if_false, if_true] <;> omega
 ·have : y = 0 := by omega
  subst this
  cases r.2.2 && decide (n > 1) <;> simp
theorem qbY {r : Rn} (h : good r) {x n : Int} (h0 : 0 ≤ x) (h1 : 1 ≤ n) (h2 : x + n ≤ r.2.1) : good (wG r x n) := by
 rw [Yn] at h ⊢
 obtain ⟨g1, g2, g3⟩ := h
 have e1 := qjg (r := r) (x := x) (by omega) (by omega)
 have e2 := qjg (r := r) (x := x + n - 1) (by omega) (by omega)
 refine ⟨h1, ?_, ?_⟩
 ·unfold wG lo
  by_cases h : n > 1
  ·rw [qw h, Bool.and_true]
   unfold wd at e1 e2 ⊢
   cases hb : r.2.2 <;> rw [hb] at e1 e2 <;> simp only [qE, if_false, if_true] at e1 e2 ⊢ <;> omega
  ·rw [qq h, XT]
   simp only [qE, if_false]; omega
 ·unfold wG hi
  by_cases h : n > 1
  ·rw [qw h, Bool.and_true]
   unfold wd at e1 e2 ⊢
   cases hb : r.2.2 <;> rw [hb] at e1 e2 <;> simp only [qE, if_false, if_true] at e1 e2 ⊢ <;> omega
  ·rw [qq h, XT]
   simp only [qE, if_false]; omega
theorem qQy {c r : Rn} (h : apart c r = false) : wA c r = 1 ∨ wA c r = -1 := by
 unfold apart at h
 simp only [v6] at h
 generalize wA c r = s at h
 by_cases e1 : s = 1
 ·exact .inl e1
 ·by_cases e2 : s = -1
  ·exact .inr e2
  ·have := h.1; simp [e1, e2] at this
theorem qIH {c r : Rn} (h : apart c r = false) (hc : c.2.1 > 1) : c.2.2 = (wA c r == -1) := by
 unfold apart at h
 simp only [v6] at h
 have h2 := h.2
 rw [qw hc, wH] at h2
 cases e : c.2.2 <;> cases e2 : (wA c r == -1) <;> simp_all
theorem qfF {c r : Rn} (hc : 1 ≤ c.2.1) (h : apart c r = false) {n : Int} (hn : n > 1 → r.2.2 = (wA c r == -1)) {x : Int} (h0 : 0 ≤ x) (h1 : x < c.2.1 + n) :
  wd (c.1, c.2.1 + n, wA c r == -1) x = if x < c.2.1 then wd c x else wd r (x - c.2.1) := by
 have hb := qIH (c := c) (r := r) h
 have hstp : wA c r = r.1 - wd c (c.2.1 - 1) := rfl
 rcases qQy h with hs | hs
 ·rw [hs] at hb hn hstp ⊢
  have hf : ((1 : Int) == -1) = false := rfl
  rw [hf] at hb hn ⊢
  unfold wd at hstp ⊢
  simp only [qE, if_false]
  by_cases hx : x < c.2.1
  ·rw [qc hx]
   by_cases hc1 : c.2.1 > 1
   ·rw [hb hc1]; simp
   ·have : x = 0 := by omega
    subst this; cases c.2.2 <;> simp
  ·rw [qi hx]
   have e1 : r.1 = c.1 + c.2.1 := by
    by_cases hc1 : c.2.1 > 1
    ·rw [hb hc1] at hstp; simp only [qE, if_false] at hstp; omega
    ·cases e : c.2.2 <;> rw [e] at hstp <;> simp only [qE, if_false, if_true] at hstp <;> omega
   by_cases hn1 : n > 1
   ·rw [hn hn1]; simp only [qE, if_false]; omega
   ·cases r.2.2 <;> simp only [qE, if_false, if_true] <;> omega
 ·rw [hs] at hb hn hstp ⊢
  have hf : ((-1 : Int) == -1) = true := rfl
  rw [hf] at hb hn ⊢
  unfold wd at hstp ⊢
  simp only [if_true]
  by_cases hx : x < c.2.1
  ·rw [qc hx]
   by_cases hc1 : c.2.1 > 1
   ·rw [hb hc1]; simp
   ·have : x = 0 := by omega
    subst this; cases c.2.2 <;> simp
  ·rw [qi hx]
   have e1 : r.1 = c.1 - c.2.1 := by
    by_cases hc1 : c.2.1 > 1
    ·rw [hb hc1] at hstp; simp only [if_true] at hstp; omega
    ·cases e : c.2.2 <;> rw [e] at hstp <;> simp only [qE, if_false, if_true] at hstp <;> omega
   by_cases hn1 : n > 1
   ·rw [hn hn1]; simp only [if_true]; omega
   ·cases r.2.2 <;> simp only [qE, if_false, if_true] <;> omega
theorem qhw {r : Rn} (h1 : 1 ≤ r.2.1) (a : 0 ≤ wd r 0 ∧ wd r 0 < 17179869184) (b : 0 ≤ wd r (r.2.1 - 1) ∧ wd r (r.2.1 - 1) < 17179869184) : good r := by
 rw [Yn]
 unfold wd at a b
 unfold lo hi
 cases hb : r.2.2 <;> rw [hb] at a b <;> simp only [qE, if_false, if_true] at a b ⊢ <;> omega
theorem qfE {r : Rn} (h : good r) {x : Int} (h0 : 0 ≤ x) (h1 : x < r.2.1) : 0 ≤ wd r x ∧ wd r x < 17179869184 := by
 have := qjg (r := r) h0 h1
 have h := Yn.1 h
 omega
theorem qo9 {c r : Rn} (hc : good c) (hr : good r) (h : apart c r = false) {n : Int} (hn0 : 1 ≤ n) (hn1 : n ≤ r.2.1) (hn : n > 1 → r.2.2 = (wA c r == -1)) : good (c.1, c.2.1 + n, wA c r == -1) := by
 have hc1 := hc.1
 refine qhw (by show 1 ≤ c.2.1 + n; omega) ?_ ?_
 ·rw [qfF hc1 h hn (by omega) (by omega), qc (by omega)]
  exact qfE hc (by omega) (by omega)
 ·show 0 ≤ wd (c.1, c.2.1 + n, wA c r == -1) (c.2.1 + n - 1) ∧ wd (c.1, c.2.1 + n, wA c r == -1) (c.2.1 + n - 1) < 17179869184
  rw [qfF hc1 h hn (by omega) (by omega), qi (by omega)]
  exact qfE hr (by omega) (by omega)
theorem VZ (b : List Rn) (r : Rn) (hb : goods b) (hr : good r) : goods (vC b r) ∧ qp (vC b r) = qp b + r.2.1 ∧ ∀ x, 0 ≤ x → x < qp b + r.2.1 → q9 (vC b r) x = q9 (b ++ [r]) x := by
 have hr1 := hr.1
 have last1 : ∀ (x : Int), x < r.2.1 → q9 [r] x = wd r x := fun x h => by simp only [q9, qc h]
 have p0 : ∀ x, 0 ≤ x → x < r.2.1 → wd (wG r 0 r.2.1) x = wd r x := fun x h0 h1 => by rw [qez h0 h1, Int.zero_add]
 have hp : good (wG r 0 r.2.1) := qbY hr (by omega) hr1 (by omega)
 have new : ∀ b : List Rn, goods b → goods (b ++ [wG r 0 r.2.1]) ∧ qp (b ++ [wG r 0 r.2.1]) = qp b + r.2.1 ∧ ∀ x, 0 ≤ x → x < qp b + r.2.1 → q9 (b ++ [wG r 0 r.2.1]) x = q9 (b ++ [r]) x := fun b hb => by
  refine ⟨(Qm _ _).2 ⟨hb, hp, trivial⟩, ?_, fun x h0 h1 => ?_⟩
  ·rw [WV]; simp only [qp]; show qp b + (r.2.1 + 0) = _; omega
  ·rw [zL _ _ _ hb h0, zL _ _ _ hb h0]
   by_cases h : x < qp b
   ·rw [qc h, qc h]
   ·rw [qi h, qi h, last1 _ (by omega)]
    have hlt : x - qp b < (wG r 0 r.2.1).2.1 := by show x - qp b < r.2.1; omega
    simp only [q9, qc hlt]
    exact p0 _ (by omega) (by omega)
 have h0 : ¬ r.2.1 < 1 := by omega
 rcases List.eq_nil_or_concat b with rfl | ⟨pre, c, rfl⟩
 ·unfold vC
  rw [qi h0]
  exact new [] trivial
 rw [List.concat_eq_append] at *
 obtain ⟨hpre, hc, _⟩ := (Qm _ _).1 hb
 have hc1 := hc.1
 have hlc : qp (pre ++ [c]) = qp pre + c.2.1 := by rw [WV]; simp only [qp]; omega
 have e : vC (pre ++ [c]) r = (bif apart c r then pre ++ [c] ++ [wG r 0 r.2.1]
   else bif decide (r.2.1 > 1) && !(r.2.2 == (wA c r == -1)) then pre ++ [(c.1, c.2.1 + 1, wA c r == -1), wG r 1 (r.2.1 - 1)]
   else pre ++ [(c.1, c.2.1 + r.2.1, wA c r == -1)]) := by
  unfold vC; rw [qi h0]; simp
 rw [e]
 cases ha : apart c r with
 | true => rw [qj]; exact new _ hb
 | false =>
 rw [qg]
 have old : ∀ x, 0 ≤ x → x < qp (pre ++ [c]) + r.2.1 → q9 (pre ++ [c] ++ [r]) x = if x < qp pre then q9 pre x else if x - qp pre < c.2.1 then wd c (x - qp pre) else wd r (x - qp pre - c.2.1) := fun x hx0 hx1 => by
  rw [qeY, zL _ _ _ hpre hx0]
  by_cases h : x < qp pre
  ·rw [qc h, qc h]
  ·rw [qi h, qi h]
   simp only [qne, wk, q9]
   by_cases h2 : x - qp pre < c.2.1
   ·rw [qc h2, qc h2]
   ·rw [qi h2, qi h2, qc (by omega)]
 cases hd : (decide (r.2.1 > 1) && !(r.2.2 == (wA c r == -1))) with
 | true =>
  rw [qj]
  simp only [qh, decide_eq_true_eq] at hd
  have hn : (1 : Int) > 1 → r.2.2 = (wA c r == -1) := fun h => by omega
  have hg := qo9 hc hr ha (n := 1) (by omega) (by omega) hn
  have hq : good (wG r 1 (r.2.1 - 1)) := qbY hr (by omega) (by omega) (by omega)
  refine ⟨(Qm _ _).2 ⟨hpre, hg, hq, trivial⟩, ?_, fun x hx0 hx1 => ?_⟩
  ·rw [WV, hlc]
   simp only [qp]
   show qp pre + (c.2.1 + 1 + (r.2.1 - 1 + 0)) = _
   omega
  ·rw [old x hx0 hx1, zL _ _ _ hpre hx0]
   by_cases h : x < qp pre
   ·rw [qc h, qc h]
   ·rw [qi h, qi h]
    simp only [q9]
    show (if x - qp pre < c.2.1 + 1 then _ else if x - qp pre - (c.2.1 + 1) < r.2.1 - 1 then _ else _) = _
    by_cases h2 : x - qp pre < c.2.1 + 1
    ·rw [qc h2, qfF hc1 ha hn (by omega) h2]
    ·rw [qi h2, qc (by omega), qi (by omega), qez (by omega) (by omega)]
     congr 1; omega
 | false =>
  rw [qg]
  have hn : r.2.1 > 1 → r.2.2 = (wA c r == -1) := fun h => by
   rw [qw h, wH] at hd
   cases e : r.2.2 <;> cases e2 : (wA c r == -1) <;> simp_all
  have hg := qo9 hc hr ha (n := r.2.1) (by omega) (by omega) hn
  refine ⟨(Qm _ _).2 ⟨hpre, hg, trivial⟩, ?_, fun x hx0 hx1 => ?_⟩
  ·rw [WV, hlc]
   simp only [qp]
   show qp pre + (c.2.1 + r.2.1 + 0) = _
   omega
  ·rw [old x hx0 hx1, zL _ _ _ hpre hx0]
   by_cases h : x < qp pre
   ·rw [qc h, qc h]
   ·rw [qi h, qi h]
    simp only [q9]
    show (if x - qp pre < c.2.1 + r.2.1 then _ else _) = _
    rw [qc (by omega), qfF hc1 ha hn (by omega) (by omega)]
theorem qcj : ∀ (l b : List Rn), goods b → goods l → goods (zp b l) ∧ qp (zp b l) = qp b + qp l ∧ ∀ x, 0 ≤ x → x < qp b + qp l → q9 (zp b l) x = q9 (b ++ l) x
 | [], b, hb, _ => by simp [zp, qp, hb]
 | r :: t, b, hb, ⟨hr, ht⟩ => by
  obtain ⟨a1, a2, a3⟩ := VZ b r hb hr
  obtain ⟨b1, b2, b3⟩ := qcj t (vC b r) a1 ht
  have hr1 := hr.1
  have hb0 := zg hb
  have ht0 := zg ht
  refine ⟨b1, by show qp (zp (vC b r) t) = _; rw [b2, a2]; simp only [qp]; omega, fun x h0 h1 => ?_⟩
  show q9 (zp (vC b r) t) x = _
  simp only [qp] at h1
  rw [b3 x h0 (by rw [a2]; omega), zL _ _ _ a1 h0, a2, show b ++ r :: t = b ++ [r] ++ t by simp, zL (b ++ [r]) _ _ ((Qm _ _).2 ⟨hb, hr, trivial⟩) h0, WV, show qp [r] = r.2.1 by simp [qp]]
  by_cases h : x < qp b + r.2.1
  ·rw [qc h, qc h, a3 x h0 h]
  ·rw [qi h, qi h]
theorem Vj : ∀ (m : List Rn) (a b : Int), goods m → a < b → b ≤ qp m → 0 ≤ b →
  goods (wc m a b) ∧ qp (wc m a b) = b - max a 0 ∧ ∀ x, 0 ≤ x → x < b - max a 0 → q9 (wc m a b) x = q9 m (max a 0 + x)
 | [], a, b, _, h1, h2, h3 => by
  simp only [qp] at h2
  refine ⟨trivial, by simp only [wc, qp]; omega, fun x h0 hx => by omega⟩
 | r :: t, a, b, ⟨hr, ht⟩, h1, h2, h3 => by
  have hr1 := hr.1
  have ht0 := zg ht
  simp only [qp] at h2
  by_cases hb : b - r.2.1 ≤ 0
  ·-- the end lies within the first run
   have hnil : wc t (a - r.2.1) (b - r.2.1) = [] := by
    have : ∀ (t : List Rn) (a b : Int), b ≤ 0 → goods t → wc t a b = [] := fun t => by
     induction t with
     | nil => intros; rfl
     | cons u v ih =>
      intro a b hb hg
      have := hg.1.1
      simp only [wc]
      rw [qi (by omega), ih _ _ (by omega) hg.2]; rfl
    exact this t _ _ hb ht
   simp only [wc, hnil, zH]
   by_cases hc : max a 0 < min b r.2.1
   ·rw [qc hc]
    refine ⟨⟨qbY hr (by omega) (by omega) (by omega), trivial⟩, ?_, fun x h0 hx => ?_⟩
    ·simp only [qp]; show min b r.2.1 - max a 0 + 0 = _; omega
    ·have hlt : x < min b r.2.1 - max a 0 := by omega
     show (if x < min b r.2.1 - max a 0 then wd (wG r (max a 0) (min b r.2.1 - max a 0)) x else 0) = if max a 0 + x < r.2.1 then wd r (max a 0 + x) else q9 t (max a 0 + x - r.2.1)
     rw [qc hlt, qez h0 hlt, qc (by omega)]
   ·rw [qi hc]
    refine ⟨trivial, by simp only [qp]; omega, fun x h0 hx => by omega⟩
  ·obtain ⟨i1, i2, i3⟩ := Vj t (a - r.2.1) (b - r.2.1) ht (by omega) (by omega) (by omega)
   simp only [wc]
   by_cases hc : max a 0 < min b r.2.1
   ·rw [qc hc]
    refine ⟨⟨qbY hr (by omega) (by omega) (by omega), i1⟩, ?_, fun x h0 hx => ?_⟩
    ·simp only [qne, wk, qp, i2]; show min b r.2.1 - max a 0 + _ = _; omega
    ·simp only [qne, wk, q9]
     show (if x < min b r.2.1 - max a 0 then _ else q9 _ (x - (min b r.2.1 - max a 0))) = _
     by_cases hx2 : x < min b r.2.1 - max a 0
     ·rw [qc hx2, qez h0 hx2, qc (by omega)]
     ·rw [qi hx2, i3 _ (by omega) (by omega), qi (by omega)]
      congr 1; omega
   ·rw [qi hc, wk]
    refine ⟨i1, by rw [i2]; omega, fun x h0 hx => ?_⟩
    rw [i3 x h0 (by omega)]
    simp only [q9]
    rw [qi (by omega)]
    congr 1; omega
theorem qpz {p : Rn} (h : good p) : good (vV p) ∧ (vV p).2.1 = p.2.1 ∧ ∀ x, 0 ≤ x → x < p.2.1 → wd (vV p) x = wd p (p.2.1 - 1 - x) := by
 have h1 := h.1
 have hi : ∀ x, 0 ≤ x → x < p.2.1 → wd (vV p) x = wd p (p.2.1 - 1 - x) := fun x h0 hx => by
  unfold vV wd
  by_cases hl : p.2.1 > 1
  ·rw [qw hl, Bool.and_true]
   cases p.2.2 <;> simp only [qS1, ve, qE, if_false, if_true] <;> omega
  ·have : x = 0 := by omega
   subst this
   rw [qq hl, XT]
   simp
 refine ⟨qhw h1 ?_ ?_, rfl, hi⟩
 ·rw [hi 0 (by omega) (by omega)]; exact qfE h (by omega) (by omega)
 ·show 0 ≤ wd (vV p) (p.2.1 - 1) ∧ wd (vV p) (p.2.1 - 1) < 17179869184
  rw [hi _ (by omega) (by omega)]; exact qfE h (by omega) (by omega)
theorem qpw : ∀ (l : List Rn), goods l → goods (l.reverse.map vV) ∧ qp (l.reverse.map vV) = qp l ∧ ∀ x, 0 ≤ x → x < qp l → q9 (l.reverse.map vV) x = q9 l (qp l - 1 - x)
 | [], _ => ⟨trivial, rfl, fun x _ h => by simp only [qp] at h; omega⟩
 | r :: t, ⟨hr, ht⟩ => by
  obtain ⟨i1, i2, i3⟩ := qpw t ht
  obtain ⟨r1, r2, r3⟩ := qpz hr
  have hr1 := hr.1
  have ht0 := zg ht
  have e : (r :: t).reverse.map vV = t.reverse.map vV ++ [vV r] := by simp
  rw [e]
  refine ⟨(Qm _ _).2 ⟨i1, r1, trivial⟩, ?_, fun x h0 hx => ?_⟩
  ·rw [WV, i2]; simp only [qp, r2]; omega
  ·simp only [qp] at hx ⊢
   rw [zL _ _ _ i1 h0, i2]
   simp only [q9, r2]
   by_cases h : x < qp t
   ·rw [qc h, i3 x h0 h, qi (by omega)]
    congr 1; omega
   ·rw [qi h, qc (by omega), qc (by omega), r3 _ (by omega) (by omega)]
    congr 1; omega
theorem Z1 (outer : List Rn) (r : Rn) (ho : goods outer) (hr : good r) (hh : hi r < qp outer) :
  goods (steps outer r) ∧ qp (steps outer r) = r.2.1 ∧ ∀ x, 0 ≤ x → x < r.2.1 → q9 (steps outer r) x = q9 outer (wd r x) := by
 obtain ⟨l1, l2, l3, l4⟩ := hr.lohi
 have hr1 := hr.1
 unfold steps
 unfold lo at l1 l2 l4
 unfold hi at l2 l3 l4 hh
 cases hb : r.2.2
 ·rw [hb] at l1 l2 l3 l4 hh
  simp only [qE, if_false] at l1 l2 l3 l4 hh ⊢
  obtain ⟨p1, p2, p3⟩ := Vj outer r.1 (r.1 + r.2.1) ho (by omega) (by omega) (by omega)
  refine ⟨p1, by rw [p2]; omega, fun x h0 hx => ?_⟩
  rw [p3 x h0 (by omega)]
  unfold wd
  rw [hb]
  simp only [qE, if_false]
  congr 1; omega
 ·rw [hb] at l1 l2 l3 l4 hh
  simp only [if_true] at l1 l2 l3 l4 hh ⊢
  obtain ⟨p1, p2, p3⟩ := Vj outer (r.1 - r.2.1 + 1) (r.1 + 1) ho (by omega) (by omega) (by omega)
  obtain ⟨q1, q2, q3⟩ := qpw _ p1
  refine ⟨q1, by rw [q2, p2]; omega, fun x h0 hx => ?_⟩
  rw [q3 x h0 (by omega), p3 _ (by omega) (by omega), p2]
  unfold wd
  rw [hb]
  simp only [if_true]
  congr 1; omega
theorem ql0 (outer : List Rn) (ho : goods outer) : ∀ (inner b : List Rn), goods inner → fitsIn (qp outer) inner → goods b →
  goods (inner.foldl (fun b r => zp b (steps outer r)) b) ∧ qp (inner.foldl (fun b r => zp b (steps outer r)) b) = qp b + qp inner ∧
  ∀ x, 0 ≤ x → x < qp b + qp inner → q9 (inner.foldl (fun b r => zp b (steps outer r)) b) x = if x < qp b then q9 b x else q9 outer (q9 inner (x - qp b))
 | [], b, _, _, hb => ⟨hb, by simp [qp], fun x h0 h1 => by simp only [qp, Int.add_zero] at h1; simp only [List.foldl_nil]; rw [qc h1]⟩
 | r :: t, b, ⟨hr, ht⟩, ⟨hf, hft⟩, hb => by
  obtain ⟨s1, s2, s3⟩ := Z1 outer r ho hr hf
  obtain ⟨a1, a2, a3⟩ := qcj (steps outer r) b hb s1
  obtain ⟨i1, i2, i3⟩ := ql0 outer ho t (zp b (steps outer r)) ht hft a1
  have hr1 := hr.1
  have ht0 := zg ht
  simp only [List.foldl_cons, qp]
  refine ⟨i1, by rw [i2, a2, s2]; omega, fun x h0 hx => ?_⟩
  rw [i3 x h0 (by rw [a2, s2]; omega), a2, s2]
  by_cases h : x < qp b + r.2.1
  ·rw [qc h, a3 x h0 (by rw [s2]; omega), zL _ _ _ hb h0]
   by_cases h2 : x < qp b
   ·rw [qc h2, qc h2]
   ·rw [qi h2, qi h2, s3 _ (by omega) (by omega)]
    simp only [q9]
    rw [qc (by omega)]
  ·rw [qi h, qi (by omega)]
   simp only [q9]
   rw [qi (by omega)]
   congr 2; omega
theorem qAF {inner outer m : List Rn} (h : V9 inner outer = (m, 0)) : Chk inner ∧ Chk outer ∧ fitsIn (qp outer) inner ∧ Chk m ∧ qp m = qp inner ∧ ∀ x, 0 ≤ x → x < qp inner → q9 m x = q9 outer (q9 inner x) := by
 unfold V9 at h
 by_cases h1 : chk inner ≠ 0
 ·rw [qc h1] at h; exact absurd (congrArg Prod.snd h) h1
 rw [qi h1] at h
 by_cases h2 : chk outer ≠ 0
 ·rw [qc h2] at h; exact absurd (congrArg Prod.snd h) h2
 rw [qi h2] at h
 by_cases h3 : ¬ fitsIn (qp outer) inner
 ·rw [qc h3] at h; exact absurd (congrArg Prod.snd h) (fun e => by cases e)
 rw [qi h3] at h
 by_cases h4 : (Xa inner outer).length > 256
 ·rw [qc h4] at h; exact absurd (congrArg Prod.snd h) (fun e => by cases e)
 rw [qi h4] at h
 have h1 := wU.1 (Classical.not_not.1 h1)
 have h2 := wU.1 (Classical.not_not.1 h2)
 have h3 := Classical.not_not.1 h3
 have e : Xa inner outer = m := congrArg Prod.fst h
 obtain ⟨c1, c2, c3⟩ := ql0 outer h2.goods inner [] h1.goods h3 trivial
 have c1 : goods (Xa inner outer) := c1
 have c2 : qp (Xa inner outer) = 0 + qp inner := c2
 rw [e] at c1 c2 h4
 refine ⟨h1, h2, h3, ⟨by omega, c1, by rw [c2]; have := h1.tot; omega⟩, by omega, fun x h0 hx => ?_⟩
 have := c3 x h0 (by simp only [qp]; omega)
 have this : q9 (Xa inner outer) x = _ := this
 rw [e] at this
 rw [this]
 simp only [qp, qi (by omega : ¬ x < 0), Int.sub_zero]
theorem goods.bnds {b : List Rn} (h : goods b) : ∀ c ∈ b, Bnd c ∧ 1 ≤ c.2.1 := fun c hc => ⟨(h.mem c hc).bnd, (h.mem c hc).1⟩
theorem XU (b : List Rn) (r : Rn) : (vC b r).length ≤ b.length + 1 := by
 by_cases h0 : r.2.1 < 1
 ·rw [qgW _ _ h0]; omega
 rcases List.eq_nil_or_concat b with rfl | ⟨pre, c, rfl⟩
 ·rw [qkg _ h0]; simp
 rw [List.concat_eq_append, qgV _ _ _ h0]
 cases apart c r
 ·rw [qg]
  cases decide (r.2.1 > 1) && !(r.2.2 == (wA c r == -1))
  ·rw [qg]; simp
  ·rw [qj]; simp
 ·rw [qj]; simp
theorem qkh : ∀ (l b : List Rn), (zp b l).length ≤ b.length + l.length
 | [], b => by simp [zp]
 | r :: t, b => by
  have h1 := XU b r
  have h2 := qkh t (vC b r)
  have : zp b (r :: t) = zp (vC b r) t := rfl
  rw [this]; simp only [wB]; omega
theorem Xv : ∀ (m : List Rn) (a b : Int), (wc m a b).length ≤ m.length
 | [], _, _ => qR _
 | r :: t, a, b => by
  have := Xv t (a - r.2.1) (b - r.2.1)
  simp only [wc, qT, wB]
  split <;> simp <;> omega
theorem qtI (b l m : List Rn) : zp b (l ++ m) = zp (zp b l) m := by unfold zp; rw [List.foldl_append]
theorem qsw (r : Rn) (f t a : Int) : (if a > f then a else f) - a = max (f - a) 0 ∧ (if a + r.2.1 < t then a + r.2.1 else t) - (if a > f then a else f) = min (t - a) r.2.1 - max (f - a) 0 ∧ ((if a > f then a else f) < (if a + r.2.1 < t then a + r.2.1 else t) ↔ max (f - a) 0 < min (t - a) r.2.1) := by
 refine ⟨?_, ?_, ?_⟩ <;> split <;> (try split) <;> omega
structure EachOk (m : List Rn) (f t : Int) : Prop where
 goods : goods m
 len : m.length ≤ 300
 f0 : -1125899906842624 ≤ f ∧ f ≤ 1125899906842624
 t0 : -1125899906842624 ≤ t ∧ t ≤ 1125899906842624
theorem qnP (k : Nat) (hk : 4 ≤ k) (m0 : List Rn) (f0 t0 : Int) (b0 : List Rn) (m : List Rn) (f t : Int) (ok : EachOk m f t) : ∀ (j i : Nat) (a : Int) (b : List Rn), i ≤ m.length → m.length - i < j → 0 ≤ a → a ≤ (i : Int) * 17179869184 → goods b → b.length ≤ 100000000 + i →
  Yd k m0 f0 t0 b0 j f t a m (m.length : Int) (i : Int) b = some (zp b (wc (m.drop i) (f - a) (t - a))) := by
 obtain ⟨hg, hm, ⟨f1, f2⟩, t1, t2⟩ := ok
 intro j
 induction j with
 | zero => intros; omega
 | succ j ih =>
  intro i a b hi hj h0 ha hb hbl
  rw [Yd]
  by_cases h : i < m.length
  ·have hgr : good (m.getD i T3.dflt) := hg.mem _ (by simp [h])
   rw [qw (by omega : (i : Int) < (m.length : Int)), qj, qc ⟨by omega, by omega⟩, qt m i T3.dflt h, qe]
   generalize m.getD i T3.dflt = r at hgr
   have hgr' := hgr
   obtain ⟨g1, g2, g3, g4, _⟩ := hgr
   obtain ⟨e1, e2, e3⟩ := qsw r f t a
   have m1 : -9223372036854775808 ≤ (if a > f then a else f) - a := by split <;> omega
   have m2 : (if a > f then a else f) - a < 9223372036854775808 := by split <;> omega
   have m3 : -9223372036854775808 ≤ (if a + r.snd.fst < t then a + r.snd.fst else t) - (if a > f then a else f) := by split <;> split <;> omega
   have m4 : (if a + r.snd.fst < t then a + r.snd.fst else t) - (if a > f then a else f) < 9223372036854775808 := by split <;> split <;> omega
   rw [qm (i := a + r.snd.fst) (by omega) (by omega), qm m1 m2, qm m3 m4, qH i (by omega), e1, e2]
   have hrec : f - a - r.2.1 = f - (a + r.snd.fst) := by omega
   have hrec2 : t - a - r.2.1 = t - (a + r.snd.fst) := by omega
   by_cases hc : max (f - a) 0 < min (t - a) r.2.1
   ·have hp := qbY hgr' (x := max (f - a) 0) (n := min (t - a) r.2.1 - max (f - a) 0) (by omega) (by omega) (by omega)
    rw [qw (e3.2 hc), qj, Wx k r _ _ (by omega) (by omega) (by omega) (by omega), ZZ k r _ _ (by omega) (by omega) (by omega) (by omega)]
    rw [qhC k hk b _ (by omega) hp.bnd hb.bnds, qpe k hk b _ (by omega) hp.bnd hb.bnds, qc ⟨rfl, rfl⟩]
    rw [ih (i + 1) _ _ (by omega) (by omega) (by omega) (by omega) (VZ b _ hb hp).1 (by have := XU b (wG r (max (f - a) 0) (min (t - a) r.snd.fst - max (f - a) 0)); omega)]
    rw [wc, qc hc, qtI, hrec, hrec2]
    rfl
   ·rw [qq (fun x => hc (e3.1 x)), qg, ih (i + 1) _ _ (by omega) (by omega) (by omega) (by omega) hb (by omega), wc, qi hc, wk, hrec, hrec2]
  ·rw [qq (by omega : ¬ (i : Int) < (m.length : Int)), qg, zh m i (by omega)]
   rfl
theorem qes (k : Nat) (hk : 304 ≤ k) (m : List Rn) (f t : Int) (ok : EachOk m f t) (b : List Rn) (hb : goods b) (hbl : b.length ≤ 100000000) : qiX k m f t b = some (zp b (wc m f t)) := by
 unfold qiX
 have := qnP k (by omega) m f t b m f t ok k 0 0 b (by omega) (by have := ok.len; omega) (by omega) (by omega) hb (by omega)
 rw [Int.sub_zero, Int.sub_zero] at this
 exact this
theorem qnQ (k : Nat) (hk : 304 ≤ k) (m : List Rn) (f t : Int) (ok : EachOk m f t) (b : List Rn) (hb : goods b) (hbl : b.length ≤ 100000000) : qjF k m f t b = zp b (wc m f t) := by
 unfold qjF; rw [qes k hk m f t ok b hb hbl]; rfl
theorem qkv (k : Nat) (m0 : List Rn) (f0 t0 : Int) (b0 : List Rn) (m : List Rn) (f t : Int) (ok : EachOk m f t) : ∀ (j i : Nat) (a : Int) (b : List Rn), i ≤ m.length → m.length - i < j → 0 ≤ a → a ≤ (i : Int) * 17179869184 → b.length ≤ 100000000 + i →
  Ye k m0 f0 t0 b0 j f t a m (m.length : Int) (i : Int) b = some (b ++ wc (m.drop i) (f - a) (t - a)) := by
 obtain ⟨hg, hm, ⟨f1, f2⟩, t1, t2⟩ := ok
 intro j
 induction j with
 | zero => intros; omega
 | succ j ih =>
  intro i a b hi hj h0 ha hbl
  rw [Ye]
  by_cases h : i < m.length
  ·have hgr : good (m.getD i T3.dflt) := hg.mem _ (by simp [h])
   rw [qw (by omega : (i : Int) < (m.length : Int)), qj, qc ⟨by omega, by omega⟩, qt m i T3.dflt h, qe]
   generalize m.getD i T3.dflt = r at hgr
   obtain ⟨g1, g2, g3, g4, _⟩ := hgr
   obtain ⟨e1, e2, e3⟩ := qsw r f t a
   have m1 : -9223372036854775808 ≤ (if a > f then a else f) - a := by split <;> omega
   have m2 : (if a > f then a else f) - a < 9223372036854775808 := by split <;> omega
   have m3 : -9223372036854775808 ≤ (if a + r.snd.fst < t then a + r.snd.fst else t) - (if a > f then a else f) := by split <;> split <;> omega
   have m4 : (if a + r.snd.fst < t then a + r.snd.fst else t) - (if a > f then a else f) < 9223372036854775808 := by split <;> split <;> omega
   rw [qm (i := a + r.snd.fst) (by omega) (by omega), qm m1 m2, qm m3 m4, qH i (by omega), e1, e2]
   have hrec : f - a - r.2.1 = f - (a + r.snd.fst) := by omega
   have hrec2 : t - a - r.2.1 = t - (a + r.snd.fst) := by omega
   by_cases hc : max (f - a) 0 < min (t - a) r.2.1
   ·rw [qw (e3.2 hc), qj, Wx k r _ _ (by omega) (by omega) (by omega) (by omega), ZZ k r _ _ (by omega) (by omega) (by omega) (by omega)]
    have ec : ∀ p : Rn, qiV k p b = some (b ++ [p]) := fun p => by
     unfold qiV
     rw [qc (by rw [qz]; omega)]
    have ev : ∀ p : Rn, qjE k p b = b ++ [p] := fun p => by unfold qjE; rw [ec]; rfl
    rw [ec, ev, qc ⟨rfl, rfl⟩, ih (i + 1) _ _ (by omega) (by omega) (by omega) (by omega) (by rw [qT, qz]; omega), wc, qc hc, hrec, hrec2]
    simp
   ·rw [qq (fun x => hc (e3.1 x)), qg, ih (i + 1) _ _ (by omega) (by omega) (by omega) (by omega) (by omega), wc, qi hc, wk, hrec, hrec2]
  ·rw [qq (by omega : ¬ (i : Int) < (m.length : Int)), qg, zh m i (by omega)]
   simp [wc]
theorem qbN (k : Nat) (hk : 304 ≤ k) (m : List Rn) (f t : Int) (ok : EachOk m f t) : qiY k m f t [] = some (wc m f t) := by
 unfold qiY
 have := qkv k m f t [] m f t ok k 0 0 [] (by omega) (by have := ok.len; omega) (by omega) (by omega) (by simp)
 rw [Int.sub_zero, Int.sub_zero, wk] at this
 exact this
theorem qkw (k : Nat) (hk : 304 ≤ k) (m : List Rn) (f t : Int) (ok : EachOk m f t) : qf8 k m f t [] = wc m f t := by
 unfold qf8; rw [qbN k hk m f t ok]; rfl
theorem qnR (k : Nat) (hk : 4 ≤ k) (m0 b0 : List Rn) (m : List Rn) (hg : goods m) (hm : m.length ≤ 300) : ∀ (j i : Nat) (b : List Rn), i ≤ m.length → i < j → goods b → b.length ≤ 100000000 + (m.length - i) →
  qa9 k m0 b0 j m ((i : Int) - 1) b = some (zp b ((m.take i).reverse.map vV)) := by
 intro j
 induction j with
 | zero => intros; omega
 | succ j ih =>
  intro i b hi hj hb hbl
  rw [qa9]
  cases i with
  | zero =>
   rw [qq (by omega), qg]
   rfl
  | succ i =>
   have hlt : i < m.length := by omega
   have hgr : good (m.getD i T3.dflt) := hg.mem _ (by simp [hlt])
   rw [show ((i + 1 : Nat) : Int) - 1 = (i : Int) by omega, qw (by omega), qj, qc ⟨by omega, by omega⟩, qe, zz m i T3.dflt hlt]
   generalize m.getD i T3.dflt = r at hgr
   obtain ⟨q1, _, _⟩ := qpz hgr
   obtain ⟨g1, g2, g3, g4, _⟩ := hgr
   have er : (wd r (r.snd.fst - 1), r.snd.fst, !r.snd.snd && decide (r.snd.fst > 1)) = vV r := rfl
   rw [qm (i := r.snd.fst - 1) (by omega) (by omega), qm (i := (i : Int) - 1) (by omega) (by omega), QY k r _ (by omega) (by omega) (by omega) (by omega), WU k r _ (by omega) (by omega) (by omega) (by omega), er]
   rw [qhC k hk b _ (by omega) q1.bnd hb.bnds, qpe k hk b _ (by omega) q1.bnd hb.bnds, qc ⟨rfl, rfl⟩]
   rw [ih i _ (by omega) (by omega) (VZ b _ hb q1).1 (by have := XU b (vV r); omega)]
   simp only [List.reverse_append, List.reverse_cons, List.reverse_nil, wk, qne, List.map_cons]
   rfl
theorem qet (k : Nat) (hk : 304 ≤ k) (m : List Rn) (hg : goods m) (hm : m.length ≤ 300) (b : List Rn) (hb : goods b) (hbl : b.length ≤ 100000000) : qiZ k m b = some (zp b (m.reverse.map vV)) := by
 unfold qiZ
 rw [qm (by omega) (by omega), qnR k (by omega) m b m hg hm k m.length b (by omega) (by omega) hb (by omega), List.take_length]
theorem qnS (k : Nat) (hk : 304 ≤ k) (m : List Rn) (hg : goods m) (hm : m.length ≤ 300) (b : List Rn) (hb : goods b) (hbl : b.length ≤ 100000000) : qjG k m b = zp b (m.reverse.map vV) := by
 unfold qjG; rw [qet k hk m hg hm b hb hbl]; rfl
theorem qky {r : Rn} (h : good r) : (if wd r (r.2.1 - 1) > r.1 then wd r (r.2.1 - 1) else r.1) = hi r := by
 have h1 := h.1
 unfold wd hi
 cases r.2.2 <;> simp only [qE, if_false, if_true] <;> split <;> omega
theorem qsi {r : Rn} (h : good r) : (if wd r (r.2.1 - 1) < r.1 then wd r (r.2.1 - 1) else r.1) = lo r := by
 have h1 := h.1
 unfold wd lo
 cases r.2.2 <;> simp only [qE, if_false, if_true] <;> split <;> omega
theorem qpD (outer : List Rn) (r : Rn) : (steps outer r).length ≤ outer.length := by
 unfold steps
 split
 ·simp only [List.length_map, List.length_reverse]; exact Xv _ _ _
 ·exact Xv _ _ _
theorem qmu (k : Nat) (hk : 700 ≤ k) (inner outer : List Rn) (hin : Chk inner) (ho : Chk outer) (hf : fitsIn (qp outer) inner) : ∀ (j i : Nat) (b : List Rn), i ≤ inner.length → inner.length - i < j → goods b → b.length ≤ i * 256 →
  ZC k j outer inner (inner.length : Int) (i : Int) b = some (if ((inner.drop i).foldl (fun b r => zp b (steps outer r)) b).length > 256 then ([], 8) else ((inner.drop i).foldl (fun b r => zp b (steps outer r)) b, 0)) := by
 have hil := hin.len
 have hol := ho.len
 have fitmem : ∀ {n : Int} {l : List Rn}, fitsIn n l → ∀ r ∈ l, hi r < n := fun {n l} => by
  induction l with
  | nil => intro _ r hr; simp at hr
  | cons u v ih =>
   rintro ⟨h1, h2⟩ r hr
   rcases qK.1 hr with rfl | hr
   ·exact h1
   ·exact ih h2 r hr
 intro j
 induction j with
 | zero => intros; omega
 | succ j ih =>
  intro i b hi hj hb hbl
  rw [ZC]
  by_cases h : i < inner.length
  ·have hmem : inner.getD i T3.dflt ∈ inner := by simp [h]
   have hgr : good (inner.getD i T3.dflt) := hin.goods.mem _ hmem
   have hfr := fitmem hf _ hmem
   rw [qw (by omega : (i : Int) < (inner.length : Int)), qj, qc ⟨by omega, by omega⟩, qt inner i T3.dflt h, qe]
   generalize inner.getD i T3.dflt = r at hgr hfr
   have hgr' := hgr
   obtain ⟨g1, g2, g3, g4, _⟩ := hgr
   obtain ⟨s1, s2, s3⟩ := Z1 outer r ho.goods hgr' hfr
   have hsl := qpD outer r
   have hal := qkh (steps outer r) b
   have hag := (qcj (steps outer r) b hb s1).1
   rw [List.foldl_cons]
   cases hbk : r.snd.snd with
   | false =>
    have es : steps outer r = wc outer r.1 (r.1 + r.2.1) := by unfold steps; rw [show r.2.2 = r.snd.snd from rfl, hbk, qi (by decide)]
    have ok : EachOk outer r.fst (r.fst + r.snd.fst) := ⟨ho.goods, by omega, ⟨by omega, by omega⟩, by omega, by omega⟩
    rw [qS1, qj, qm (i := r.fst + r.snd.fst) (by omega) (by omega), qes k (by omega) outer _ _ ok b hb (by omega), qnQ k (by omega) outer _ _ ok b hb (by omega), qd, qc rfl, qH i (by omega), ← es]
    exact ih (i + 1) _ (by omega) (by omega) hag (by omega)
   | true =>
    have es : steps outer r = ((wc outer (r.1 - r.2.1 + 1) (r.1 + 1)).reverse).map vV := by unfold steps; rw [show r.2.2 = r.snd.snd from rfl, hbk, qc rfl]
    have ok : EachOk outer (r.fst - r.snd.fst + 1) (r.fst + 1) := ⟨ho.goods, by omega, ⟨by omega, by omega⟩, by omega, by omega⟩
    have hpl := Xv outer (r.fst - r.snd.fst + 1) (r.fst + 1)
    have hpg : goods (wc outer (r.fst - r.snd.fst + 1) (r.fst + 1)) := (Vj outer _ _ ho.goods (by omega) (by
     unfold Go.AM.hi at hfr
     rw [show r.2.2 = r.snd.snd from rfl, hbk, qc rfl] at hfr
     omega) (by omega)).1
    rw [ve, qg, qm (i := r.fst - r.snd.fst) (by omega) (by omega), qm (i := r.fst - r.snd.fst + 1) (by omega) (by omega), qm (i := r.fst + 1) (by omega) (by omega), qbN k (by omega) outer _ _ ok, qkw k (by omega) outer _ _ ok, qd, qc rfl]
    rw [qet k (by omega) _ hpg (by omega) b hb (by omega), qnS k (by omega) _ hpg (by omega) b hb (by omega), qd, qc rfl, qH i (by omega), ← es]
    exact ih (i + 1) _ (by omega) (by omega) hag (by omega)
  ·rw [qq (by omega : ¬ (i : Int) < (inner.length : Int)), qg, zh inner i (by omega)]
   rw [List.foldl_nil]
   by_cases hl : b.length > 256
   ·have e : Xi k b = some (.inl 8) := by
     unfold Xi; rw [qw (by omega), qj]
    have ev : XR k b = .inl 8 := by unfold XR; rw [e]; rfl
    have ea : qeH k b = 8 := by unfold qeH; rw [ev]; rfl
    rw [ev, e, ea, qc hl]; rfl
   ·have e : Xi k b = some (.inr 0) := by
     unfold Xi; rw [qq (by omega), qg]
    have ev : XR k b = .inr 0 := by unfold XR; rw [e]; rfl
    have ea : qeI k b = 0 := by unfold qeI; rw [ev]; rfl
    rw [ev, e, ea, qi hl]; rfl
theorem qnO (k : Nat) (hk : 700 ≤ k) (inner outer : List Rn) (hin : Chk inner) (ho : Chk outer) (hf0 : fitsIn (qp outer) inner → ∀ j, inner.length < j → ZC k j outer inner (inner.length : Int) 0 [] = some (if (Xa inner outer).length > 256 then ([], 8) else (Xa inner outer, 0))) : ∀ (j i : Nat), i ≤ inner.length → inner.length - i + inner.length + 1 < j → fitsIn (qp outer) (inner.take i) →
  qa6 k j inner outer (qp outer) inner (inner.length : Int) (i : Int) = some (if ¬ fitsIn (qp outer) inner then ([], 21) else if (Xa inner outer).length > 256 then ([], 8) else (Xa inner outer, 0)) := by
 have hil := hin.len
 have fitapp : ∀ {n : Int} (a b : List Rn), fitsIn n (a ++ b) ↔ fitsIn n a ∧ fitsIn n b := fun {n} a b => by
  induction a with
  | nil => simp [fitsIn]
  | cons u v ih => simp only [qne, fitsIn, ih]; exact and_assoc.symm
 intro j
 induction j with
 | zero => intros; omega
 | succ j ih =>
  intro i hi hj hf
  rw [qa6]
  by_cases h : i < inner.length
  ·have hmem : inner.getD i T3.dflt ∈ inner := by simp [h]
   have hgr : good (inner.getD i T3.dflt) := hin.goods.mem _ hmem
   have htk := zz inner i T3.dflt h
   have hdr := qt inner i T3.dflt h
   rw [qw (by omega : (i : Int) < (inner.length : Int)), qj, qc ⟨by omega, by omega⟩, qe]
   generalize inner.getD i T3.dflt = r at hgr htk hdr
   have hgr' := hgr
   obtain ⟨g1, g2, g3, g4, _⟩ := hgr
   rw [qm (i := r.snd.fst - 1) (by omega) (by omega), QY k r _ (by omega) (by omega) (by omega) (by omega), WU k r _ (by omega) (by omega) (by omega) (by omega), qd, qc rfl, qky hgr']
   by_cases hlt : Go.AM.hi r < qp outer
   ·rw [qq (by omega : ¬ Go.AM.hi r ≥ qp outer), qg, qH i (by omega)]
    exact ih (i + 1) (by omega) (by omega) (by rw [htk, fitapp]; exact ⟨hf, hlt, trivial⟩)
   ·rw [qw (by omega : Go.AM.hi r ≥ qp outer), qj, qc]
    intro hfit
    have : inner = inner.take i ++ inner.drop i := (qlu i inner).symm
    rw [this, fitapp, hdr] at hfit
    exact hlt hfit.2.1
  ·have : inner.take i = inner := zj (by omega)
   rw [this] at hf
   rw [qq (by omega : ¬ (i : Int) < (inner.length : Int)), qg, qi (Classical.not_not.2 hf)]
   exact hf0 hf j (by omega)
theorem qgl (k : Nat) (hk : 700 ≤ k) (inner outer : List Rn) : qiU k inner outer = some (V9 inner outer) := by
 unfold qiU V9
 rw [QX k (by omega), WT k (by omega), QX k (by omega), WT k (by omega), qd, qd, qc rfl]
 by_cases h1 : chk inner = 0
 ·rw [show (chk inner != 0) = false by simp [h1], qg, qc rfl, qi (fun h : chk inner ≠ 0 => h h1)]
  by_cases h2 : chk outer = 0
  ·have c1 := wU.1 h1
   have c2 := wU.1 h2
   have l1 := c1.len
   have l2 := c2.len
   rw [show (chk outer != 0) = false by simp [h2], qg, qi (fun h : chk outer ≠ 0 => h h2), Xp k outer c2.goods (by omega) (by omega), qbP k outer c2.goods (by omega) (by omega), qd, qc rfl]
   exact qnO k hk inner outer c1 c2 (fun hf j hj => qmu k hk inner outer c1 c2 hf j 0 [] (by omega) (by omega) trivial (by simp)) k 0 (by omega) (by omega) (by simp [fitsIn])
  ·rw [show (chk outer != 0) = true by simp [h2], qj, qc h2]
 ·rw [show (chk inner != 0) = true by simp [h1], qj, qc h1]
theorem qpW (k : Nat) (hk : 700 ≤ k) (inner outer : List Rn) : qcZ k inner outer = V9 inner outer := by
 unfold qcZ; rw [qgl k hk]; rfl
end Go.AM
namespace Go.AM
open Go
def QK : List Rn → Int → Option (Rn × Int)
 | [], _ => none
 | r :: t, x => if x < r.2.1 then some (r, x) else QK t (x - r.2.1)
theorem qfU : ∀ {m : List Rn} {x : Int}, goods m → 0 ≤ x → x < qp m → ∃ o p, QK m x = some (o, p) ∧ good o ∧ 0 ≤ p ∧ p < o.2.1 ∧ p ≤ x ∧ q9 m x = wd o p
 | [], x, _, h0, h1 => by simp only [qp] at h1; omega
 | r :: t, x, ⟨hr, ht⟩, h0, h1 => by
  simp only [qp] at h1
  have hr1 := hr.1
  by_cases h : x < r.2.1
  ·exact ⟨r, x, by unfold QK; rw [qc h], hr, h0, h, by omega, by unfold q9; rw [qc h]⟩
  ·obtain ⟨o, p, h2, h3, h4, h5, h6, h7⟩ := qfU (m := t) (x := x - r.2.1) ht (by omega) (by omega)
   exact ⟨o, p, by unfold QK; rw [qi h]; exact h2, h3, h4, h5, by omega, by unfold q9; rw [qi h]; exact h7⟩
theorem qkK : ∀ {m : List Rn} {x : Int}, goods m → qp m ≤ x → QK m x = none
 | [], x, _, _ => rfl
 | r :: t, x, ⟨hr, ht⟩, h => by
  simp only [qp] at h
  have := hr.1
  have := zg ht
  unfold QK
  rw [qi (by omega)]
  exact qkK ht (by omega)
theorem qmN : ∀ (m : List Rn) (a a' b : Int), goods m → a ≤ 0 → a' ≤ 0 → wc m a b = wc m a' b
 | [], _, _, _, _, _, _ => rfl
 | r :: t, a, a', b, ⟨hr, ht⟩, h1, h2 => by
  have := hr.1
  unfold wc
  rw [qmN t (a - r.2.1) (a' - r.2.1) (b - r.2.1) ht (by omega) (by omega), show max a 0 = max a' 0 by omega]
theorem Xw : ∀ (m : List Rn) (a b : Int), goods m → b ≤ max a 0 → wc m a b = []
 | [], _, _, _, _ => rfl
 | r :: t, a, b, ⟨hr, ht⟩, h => by
  have := hr.1
  unfold wc
  rw [qi (by omega), Xw t _ _ ht (by omega)]; rfl
theorem qaP : ∀ (m : List Rn) (a b : Int) (o : Rn) (p : Int), goods m → 0 ≤ a → a < b → QK m a = some (o, p) → wc m a b = wG o p (min (b - a) (o.2.1 - p)) :: wc m (a + min (b - a) (o.2.1 - p)) b
 | [], a, b, o, p, _, _, _, h => by simp [QK] at h
 | r :: t, a, b, o, p, ⟨hr, ht⟩, h0, h1, h => by
  have hr1 := hr.1
  unfold QK at h
  by_cases hx : a < r.2.1
  ·rw [qc hx] at h
   simp only [Option.some.injEq, Prod.mk.injEq] at h
   obtain ⟨rfl, rfl⟩ := h
   rw [wc, qc (by omega), wc, qi (by omega), wk, qmN t (a - r.2.1) (a + min (b - a) (r.2.1 - a) - r.2.1) _ ht (by omega) (by omega)]
   rw [show max a 0 = a by omega, show min b r.2.1 - a = min (b - a) (r.2.1 - a) by omega]
   rfl
  ·rw [qi hx] at h
   have ih := qaP t (a - r.2.1) (b - r.2.1) o p ht (by omega) (by omega) h
   have hp : 0 ≤ min (b - a) (o.2.1 - p) := by
    have : ∀ {m : List Rn} {x : Int} {o p}, QK m x = some (o, p) → p < o.2.1 := fun {m} => by
     induction m with
     | nil => intro x o p h; simp [QK] at h
     | cons u v ih =>
      intro x o p h
      unfold QK at h
      by_cases q : x < u.2.1
      ·rw [qc q] at h; simp only [Option.some.injEq, Prod.mk.injEq] at h; obtain ⟨rfl, rfl⟩ := h; exact q
      ·rw [qi q] at h; exact ih h
    have := this h
    omega
   rw [wc, qi (by omega), wk, ih, wc, qi (by omega), wk]
   rw [show b - r.2.1 - (a - r.2.1) = b - a by omega, show a - r.2.1 + min (b - a) (o.2.1 - p) = a + min (b - a) (o.2.1 - p) - r.2.1 by omega]
theorem qCS {m : List Rn} : ∀ {x : Int} {o p}, goods m → 0 ≤ x → QK m x = some (o, p) → good o ∧ 0 ≤ p ∧ p < o.2.1 ∧ p ≤ x := by
 induction m with
 | nil => intro x o p _ _ h; simp [QK] at h
 | cons u v ih =>
  intro x o p hg h0 h
  unfold QK at h
  by_cases q : x < u.2.1
  ·rw [qc q] at h; simp only [Option.some.injEq, Prod.mk.injEq] at h; obtain ⟨rfl, rfl⟩ := h; exact ⟨hg.1, h0, q, V6 _⟩
  ·rw [qi q] at h
   have := hg.1.1
   obtain ⟨a, b, c, d⟩ := ih hg.2 (by omega) h
   exact ⟨a, b, c, by omega⟩
theorem qmM : ∀ (m : List Rn) (l a : Int) (o : Rn) (p : Int), goods m → max l 0 ≤ a → QK m a = some (o, p) → wc m l (a + 1) = wc m l (a + 1 - min (a + 1 - max l 0) (p + 1)) ++ [wG o (p + 1 - min (a + 1 - max l 0) (p + 1)) (min (a + 1 - max l 0) (p + 1))]
 | [], l, a, o, p, _, _, h => by simp [QK] at h
 | r :: t, l, a, o, p, ⟨hr, ht⟩, h0, h => by
  have hr1 := hr.1
  unfold QK at h
  by_cases hx : a < r.2.1
  ·rw [qc hx] at h
   simp only [Option.some.injEq, Prod.mk.injEq] at h
   obtain ⟨rfl, rfl⟩ := h
   rw [wc, qc (by omega), Xw t _ _ ht (by omega), Xw (r :: t) _ _ ⟨hr, ht⟩ (by omega)]
   rw [show min (a + 1 - max l 0) (a + 1) = a + 1 - max l 0 by omega, show min (a + 1) r.2.1 - max l 0 = a + 1 - max l 0 by omega, show a + 1 - (a + 1 - max l 0) = max l 0 by omega]
   rfl
  ·rw [qi hx] at h
   obtain ⟨_, q1, q2, q3⟩ := qCS ht (by omega) h
   have ih := qmM t (l - r.2.1) (a - r.2.1) o p ht (by omega) h
   have e : min (a - r.2.1 + 1 - max (l - r.2.1) 0) (p + 1) = min (a + 1 - max l 0) (p + 1) := by omega
   rw [e] at ih
   rw [wc, show a + 1 - r.2.1 = a - r.2.1 + 1 by omega, ih, wc, show a + 1 - min (a + 1 - max l 0) (p + 1) - r.2.1 = a - r.2.1 + 1 - min (a + 1 - max l 0) (p + 1) by omega]
   rw [show min (a + 1) r.2.1 = r.2.1 by omega, show min (a + 1 - min (a + 1 - max l 0) (p + 1)) r.2.1 = r.2.1 by omega, qeY]
theorem qEp {outer : List Rn} {r o : Rn} {p : Int} (ho : goods outer) (hr : 1 ≤ r.2.1) (h0 : 0 ≤ r.1) (hb : r.2.2 = false) (h : QK outer r.1 = some (o, p)) :
  steps outer r = wG o p (min r.2.1 (o.2.1 - p)) :: steps outer (r.1 + min r.2.1 (o.2.1 - p), r.2.1 - min r.2.1 (o.2.1 - p), false) := by
 unfold steps
 rw [hb, qi (by decide), qi (fun e : false = true => by cases e), qaP outer r.1 (r.1 + r.2.1) o p ho h0 (by omega) h]
 rw [show r.1 + r.2.1 - r.1 = r.2.1 by omega]
 show _ = _ :: wc outer (r.1 + min r.2.1 (o.2.1 - p)) (r.1 + min r.2.1 (o.2.1 - p) + (r.2.1 - min r.2.1 (o.2.1 - p)))
 rw [show r.1 + min r.2.1 (o.2.1 - p) + (r.2.1 - min r.2.1 (o.2.1 - p)) = r.1 + r.2.1 by omega]
theorem qEo {outer : List Rn} {r o : Rn} {p : Int} (ho : goods outer) (hr : 1 ≤ r.2.1) (h0 : 0 ≤ r.1 - r.2.1 + 1) (hb : r.2.2 = true) (h : QK outer r.1 = some (o, p)) :
  steps outer r = (wd o p, min r.2.1 (p + 1), !o.2.2 && decide (min r.2.1 (p + 1) > 1)) :: steps outer (r.1 - min r.2.1 (p + 1), r.2.1 - min r.2.1 (p + 1), true) := by
 obtain ⟨_, q1, q2, q3⟩ := qCS ho (by omega) h
 have e := qmM outer (r.1 - r.2.1 + 1) r.1 o p ho (by omega) h
 rw [show r.1 + 1 - max (r.1 - r.2.1 + 1) 0 = r.2.1 by omega] at e
 unfold steps
 rw [hb, qc rfl, qc rfl, e, List.reverse_append, List.map_append]
 show _ = _ :: ((wc outer (r.1 - min r.2.1 (p + 1) - (r.2.1 - min r.2.1 (p + 1)) + 1) (r.1 - min r.2.1 (p + 1) + 1)).reverse).map vV
 rw [show r.1 - min r.2.1 (p + 1) - (r.2.1 - min r.2.1 (p + 1)) + 1 = r.1 - r.2.1 + 1 by omega, show r.1 - min r.2.1 (p + 1) + 1 = r.1 + 1 - min r.2.1 (p + 1) by omega]
 have e2 : vV (wG o (p + 1 - min r.2.1 (p + 1)) (min r.2.1 (p + 1))) = (wd o p, min r.2.1 (p + 1), !o.2.2 && decide (min r.2.1 (p + 1) > 1)) := by
  generalize hn : min r.2.1 (p + 1) = n
  have hn1 : 1 ≤ n := by omega
  unfold vV
  show (wd (wG o (p + 1 - n) n) (n - 1), n, !(o.2.2 && decide (n > 1)) && decide (n > 1)) = _
  rw [qez (by omega) (by omega), show p + 1 - n + (n - 1) = p by omega]
  congr 2
  cases o.2.2 <;> cases decide (n > 1) <;> rfl
 rw [show ([wG o (p + 1 - min r.2.1 (p + 1)) (min r.2.1 (p + 1))].reverse.map vV) = [vV (wG o (p + 1 - min r.2.1 (p + 1)) (min r.2.1 (p + 1)))] from rfl, e2]
 rfl
theorem qpE (outer : List Rn) (ho : goods outer) (x : Int) (b : Bool) : steps outer (x, 0, b) = [] := by
 unfold steps
 cases b
 ·rw [qi (by simp)]
  exact Xw outer _ _ ho (by show x + 0 ≤ max x 0; omega)
 ·rw [qc rfl, Xw outer _ _ ho (by show x + 1 ≤ max (x - 0 + 1) 0; omega)]; rfl
theorem qp2 (k : Nat) (m : List Rn) (hg : goods m) (hm : m.length ≤ 300) : ∀ (j i : Nat) (x : Int), i ≤ m.length → m.length - i < j → 0 ≤ x → x ≤ 1125899906842624 →
  (∀ o p, QK (m.drop i) x = some (o, p) → ∃ q : Nat, q < m.length ∧ m.getD q T3.dflt = o ∧ Vx k j m x (i : Int) = some ((q : Int), p)) ∧
  (QK (m.drop i) x = none → Vx k j m x (i : Int) = some (-1, 0)) := by
 intro j
 induction j with
 | zero => intros; omega
 | succ j ih =>
  intro i x hi hj h0 h1
  rw [Vx]
  by_cases h : i < m.length
  ·have hgr : good (m.getD i T3.dflt) := hg.mem _ (by simp [h])
   have hgr1 := hgr.1
   have hgr2 := hgr.2.1
   rw [qw (by omega : (i : Int) < (m.length : Int)), qw (by omega : x ≥ 0), Bool.and_true, qj, qc ⟨by omega, by omega⟩, qt m i T3.dflt h, qe, QK]
   by_cases hx : x < (m.getD i T3.dflt).2.1
   ·rw [qw hx, qj, qc hx]
    refine ⟨fun o p e => ?_, fun e => by cases e⟩
    simp only [Option.some.injEq, Prod.mk.injEq] at e
    obtain ⟨e1, rfl⟩ := e
    exact ⟨i, h, e1, rfl⟩
   ·rw [qq hx, qg, qi hx, qc ⟨by omega, by omega⟩, qm (by omega) (by omega), qH i (by omega)]
    exact ih (i + 1) _ (by omega) (by omega) (by omega) (by omega)
  ·rw [qq (by omega : ¬ (i : Int) < (m.length : Int)), wE, qg, zh m i (by omega)]
   exact ⟨fun o p e => by simp [QK] at e, fun _ => rfl⟩
theorem Vu (k : Nat) (hk : 304 ≤ k) (m : List Rn) (hg : goods m) (hm : m.length ≤ 300) (x : Int) (h0 : 0 ≤ x) (h1 : x ≤ 1125899906842624) :
  (∀ o p, QK m x = some (o, p) → ∃ q : Nat, q < m.length ∧ m.getD q T3.dflt = o ∧ WJ k m x = some ((q : Int), p) ∧ qF k m x = ((q : Int), p)) ∧
  (QK m x = none → WJ k m x = some (-1, 0) ∧ qF k m x = (-1, 0)) := by
 obtain ⟨a, b⟩ := qp2 k m hg hm k 0 x (by omega) (by omega) h0 h1
 refine ⟨fun o p e => ?_, fun e => ?_⟩
 ·obtain ⟨q, q1, q2, q3⟩ := a o p e
  have q3 : WJ k m x = some ((q : Int), p) := q3
  exact ⟨q, q1, q2, q3, by unfold qF; rw [q3]; rfl⟩
 ·have q3 : WJ k m x = some (-1, 0) := b e
  exact ⟨q3, by unfold qF; rw [q3]; rfl⟩
theorem qmG (a b : Int) : (if a < b then a else b) = min b a := by split <;> omega
theorem qhW (k : Nat) (hk : 304 ≤ k) (inner outer : List Rn) (i : Int) (ho : Chk outer) : ∀ (n : Nat) (r : Rn) (out : List Rn) (j : Nat), (steps outer r).length = n → good r → hi r < qp outer → goods out → out.length + n ≤ 100000000 →
  Ql k (j + n) inner outer out i r = WS k j inner outer (zp out (steps outer r)) (qa .i64 (i + 1)) := by
 have hol := ho.len
 have hot := ho.tot
 intro n
 induction n with
 | zero =>
  intro r out j hn hr hh hg hl
  have := (Z1 outer r ho.goods hr hh).2.1
  have h2 := hr.1
  have h3 : steps outer r = [] := List.eq_nil_of_length_eq_zero hn
  rw [h3] at this
  have this : (0 : Int) = r.2.1 := this
  omega
 | succ n ih =>
  intro r out j hn hr hh hg hl
  have hr1 := hr.1
  obtain ⟨l1, l2, l3, l4⟩ := hr.lohi
  have hbd : 0 ≤ r.1 ∧ r.1 < qp outer := by
   unfold Go.AM.hi at hh l2
   unfold lo at l1 l2
   cases hb : r.2.2 <;> rw [hb] at hh l1 l2 <;> simp only [qE, if_false, if_true] at hh l1 l2 <;> omega
  obtain ⟨o, p, e1, go, p0, p1, p2, _⟩ := qfU ho.goods hbd.1 hbd.2
  obtain ⟨q, q1, q2, q3, q4⟩ := (Vu k hk outer ho.goods (by omega) r.1 hbd.1 (by omega)).1 o p e1
  have go' := go
  obtain ⟨g1, g2, g3, g4, _⟩ := go
  obtain ⟨w1, w2, w3, w4, _⟩ := hr
  rw [show j + (n + 1) = (j + n) + 1 by omega, Ql]
  have q3' : WJ k outer r.fst = some ((q : Int), p) := q3
  have q4' : qF k outer r.fst = ((q : Int), p) := q4
  rw [qw (by omega : r.snd.fst > 0), qj, q3', q4', qd, qc rfl]
  show (bif decide ((q : Int) < 0) then _ else _) = _
  rw [qq (by omega), qg]
  show (if (0 : Int) ≤ (q : Int) ∧ (q : Int) < (outer.length : Int) then _ else _) = _
  rw [qc ⟨by omega, by omega⟩]
  have q2' : outer.getD ((q : Int), p).fst.toNat T3.dflt = o := by show outer.getD ((q : Int)).toNat _ = o; rw [qe]; exact q2
  rw [q2']
  show (bif r.snd.snd then _ else _) = _
  simp only []
  rw [zA k o p (by omega) (by omega) (by omega) (by omega), zN k o p (by omega) (by omega) (by omega) (by omega)]
  rw [qm (i := p + 1) (by omega) (by omega), qm (i := o.snd.fst - p) (by omega) (by omega), qmG, qmG]
  cases hb : r.snd.snd with
  | true =>
   have hb : r.2.2 = true := hb
   rw [qj]
   have est := qEo (outer := outer) (r := r) (o := o) (p := p) ho.goods hr1 (by unfold lo at l1; rw [hb, qc rfl] at l1; omega) hb e1
   obtain ⟨s1, s2, s3⟩ := Z1 outer r ho.goods ⟨w1, w2, w3, w4, by assumption⟩ hh
   rw [est] at hn s1 ⊢
   have hp1 := s1.1
   have hlo : 0 ≤ r.1 - r.2.1 + 1 := by unfold lo at l1; rw [hb, qc rfl] at l1; exact l1
   have hhi : r.1 < qp outer := hbd.2
   generalize hc : min r.2.1 (p + 1) = c at hn s1 est hp1 ⊢
   have hc1 : 1 ≤ c := by omega
   have hc2 : c ≤ r.2.1 := by omega
   rw [Xz k (by omega) out _ (by omega) hp1.bnd hg.bnds, qb2 k (by omega) out _ (by omega) hp1.bnd hg.bnds, qc ⟨rfl, rfl⟩]
   have hag := (VZ out _ hg hp1).1
   have hal := XU out (wd o p, c, !o.2.2 && decide (c > 1))
   have eadd : ∀ t, zp out ((wd o p, c, !o.2.2 && decide (c > 1)) :: t) = zp (vC out (wd o p, c, !o.2.2 && decide (c > 1))) t := fun _ => rfl
   rw [eadd]
   by_cases hlast : c = r.2.1
   ·have hz : steps outer (r.1 - c, r.2.1 - c, true) = [] := by
     rw [show r.2.1 - c = 0 by omega]
     exact qpE outer ho.goods _ _
    rw [hz] at hn ⊢
    have : n = 0 := by simp at hn; omega
    subst this
    rw [show (c == r.snd.fst) = true by simp [hlast], qj]
    rfl
   ·have ei : wd r c = r.1 - c := by unfold wd; rw [hb, qc rfl]
    rw [show (c == r.snd.fst) = false by exact Z5 hlast, qg, zA k r c (by omega) (by omega) (by omega) (by omega), zN k r c (by omega) (by omega) (by omega) (by omega), qd, qc rfl, qm (by omega) (by omega), ei]
    exact ih (r.1 - c, r.2.1 - c, true) _ j (by simpa using hn) (by
     rw [Yn]
     refine ⟨by show 1 ≤ r.2.1 - c; omega, ?_, ?_⟩
     ·show 0 ≤ (r.1 - c) - (r.2.1 - c) + 1; omega
     ·show r.1 - c < 17179869184; omega) (by show r.1 - c < qp outer; omega) hag (by omega)
  | false =>
   have hb : r.2.2 = false := hb
   rw [qg]
   have est := qEp (outer := outer) (r := r) (o := o) (p := p) ho.goods hr1 hbd.1 hb e1
   obtain ⟨s1, s2, s3⟩ := Z1 outer r ho.goods ⟨w1, w2, w3, w4, by assumption⟩ hh
   rw [est] at hn s1 ⊢
   have hp1 := s1.1
   have hhi : r.1 + r.2.1 - 1 < qp outer := by unfold Go.AM.hi at hh; rw [hb, qi (by decide)] at hh; exact hh
   generalize hc : min r.2.1 (o.2.1 - p) = c at hn s1 est hp1 ⊢
   have hc1 : 1 ≤ c := by omega
   have hc2 : c ≤ r.2.1 := by omega
   have ep : (wd o p, c, o.snd.snd && decide (c > 1)) = wG o p c := rfl
   rw [ep, Xz k (by omega) out _ (by omega) hp1.bnd hg.bnds, qb2 k (by omega) out _ (by omega) hp1.bnd hg.bnds, qc ⟨rfl, rfl⟩]
   have hag := (VZ out _ hg hp1).1
   have hal := XU out (wG o p c)
   have eadd : ∀ t, zp out (wG o p c :: t) = zp (vC out (wG o p c)) t := fun _ => rfl
   rw [eadd]
   by_cases hlast : c = r.2.1
   ·have hz : steps outer (r.1 + c, r.2.1 - c, false) = [] := by
     rw [show r.2.1 - c = 0 by omega]
     exact qpE outer ho.goods _ _
    rw [hz] at hn ⊢
    have : n = 0 := by simp at hn; omega
    subst this
    rw [show (c == r.snd.fst) = true by simp [hlast], qj]
    rfl
   ·have ei : wd r c = r.1 + c := by unfold wd; rw [hb, qi (by decide)]
    rw [show (c == r.snd.fst) = false by exact Z5 hlast, qg, zA k r c (by omega) (by omega) (by omega) (by omega), zN k r c (by omega) (by omega) (by omega) (by omega), qd, qc rfl, qm (by omega) (by omega), ei]
    exact ih (r.1 + c, r.2.1 - c, false) _ j (by simpa using hn) (by
     rw [Yn]
     refine ⟨by show 1 ≤ r.2.1 - c; omega, ?_, ?_⟩
     ·show 0 ≤ r.1 + c; omega
     ·show r.1 + c + (r.2.1 - c) - 1 < 17179869184; omega) (by show r.1 + c + (r.2.1 - c) - 1 < qp outer; omega) hag (by omega)
theorem qgH (k : Nat) (hk : 304 ≤ k) (inner outer : List Rn) (i : Int) (ho : Chk outer) : ∀ (n : Nat) (r : Rn) (out : List Rn) (j : Nat), (r.1 < qp outer → (wc outer r.1 (qp outer)).length ≤ n) → good r → qp outer ≤ hi r → goods out → out.length + n ≤ 100000000 →
  Ql k (j + n + 1) inner outer out i r = some ([], 21) := by
 have hol := ho.len
 have hot := ho.tot
 intro n
 induction n with
 | zero =>
  intro r out j hn hr hh hg hl
  obtain ⟨w1, w2, w3, w4, _⟩ := hr
  have hge : qp outer ≤ r.1 := by
   rcases Int.lt_or_le r.1 (qp outer) with h | h
   ·have := hn h
    obtain ⟨o, p, e1, _⟩ := qfU ho.goods w3 h
    rw [qaP outer r.1 (qp outer) o p ho.goods w3 h e1] at this
    simp at this
   ·exact h
  obtain ⟨q3, q4⟩ := (Vu k hk outer ho.goods (by omega) r.1 w3 (by omega)).2 (qkK ho.goods hge)
  rw [Ql]
  have q3' : WJ k outer r.fst = some (-1, 0) := q3
  have q4' : qF k outer r.fst = (-1, 0) := q4
  rw [qw (by omega : r.snd.fst > 0), qj, q3', q4', qd, qc rfl]
  rfl
 | succ n ih =>
  intro r out j hn hr hh hg hl
  have hr1 := hr.1
  have hr0 := hr
  obtain ⟨w1, w2, w3, w4, _⟩ := hr
  rcases Int.lt_or_le r.1 (qp outer) with hlt | hge
  ·-- forward
   have hb : r.2.2 = false := by
    cases hb : r.2.2 with
    | false => rfl
    | true => unfold Go.AM.hi at hh; rw [hb, qc rfl] at hh; omega
   have hh2 : qp outer ≤ r.1 + r.2.1 - 1 := by unfold Go.AM.hi at hh; rw [hb, qi (by decide)] at hh; exact hh
   obtain ⟨o, p, e1, go, p0, p1, p2, _⟩ := qfU ho.goods w3 hlt
   obtain ⟨q, q1, q2, q3, q4⟩ := (Vu k hk outer ho.goods (by omega) r.1 w3 (by omega)).1 o p e1
   have hpc := qaP outer r.1 (qp outer) o p ho.goods w3 hlt e1
   have hlen := (Vj outer r.1 (qp outer) ho.goods hlt (V6 _) (by omega))
   have hn' := hn hlt
   rw [hpc] at hn' hlen
   have hpl : min (qp outer - r.1) (o.2.1 - p) = o.2.1 - p := by
    have h1 := hlen.2.1
    have h2 := zg hlen.1.2
    simp only [qp] at h1
    have h3 : (wG o p (min (qp outer - r.fst) (o.snd.fst - p))).2.1 = min (qp outer - r.fst) (o.snd.fst - p) := rfl
    rw [h3] at h1
    have h4 : ∀ {m : List Rn} {x : Int} {o p}, goods m → QK m x = some (o, p) → o.2.1 - p ≤ qp m - x := fun {m} => by
     induction m with
     | nil => intro x o p _ h; simp [QK] at h
     | cons u v ih =>
      intro x o p hg h
      unfold QK at h
      have hv := zg hg.2
      by_cases q : x < u.2.1
      ·rw [qc q] at h; simp only [Option.some.injEq, Prod.mk.injEq] at h; obtain ⟨rfl, rfl⟩ := h; simp only [qp]; omega
      ·rw [qi q] at h
       have := ih hg.2 h
       simp only [qp]; omega
    have := h4 ho.goods e1
    omega
   rw [hpl] at hn' hlen
   obtain ⟨g1, g2, g3, g4, _⟩ := go
   rw [show j + (n + 1) + 1 = (j + n + 1) + 1 by omega, Ql]
   have q3' : WJ k outer r.fst = some ((q : Int), p) := q3
   have q4' : qF k outer r.fst = ((q : Int), p) := q4
   rw [qw (by omega : r.snd.fst > 0), qj, q3', q4', qd, qc rfl]
   show (bif decide ((q : Int) < 0) then _ else _) = _
   rw [qq (by omega), qg]
   show (if (0 : Int) ≤ (q : Int) ∧ (q : Int) < (outer.length : Int) then _ else _) = _
   rw [qc ⟨by omega, by omega⟩]
   have q2' : outer.getD ((q : Int), p).fst.toNat T3.dflt = o := by show outer.getD ((q : Int)).toNat _ = o; rw [qe]; exact q2
   rw [q2']
   show (bif r.snd.snd then _ else _) = _
   simp only []
   rw [zA k o p (by omega) (by omega) (by omega) (by omega), zN k o p (by omega) (by omega) (by omega) (by omega)]
   rw [qm (i := p + 1) (by omega) (by omega), qm (i := o.snd.fst - p) (by omega) (by omega), qmG, qmG]
   rw [show r.snd.snd = false from hb, qg, show min r.snd.fst (o.snd.fst - p) = o.snd.fst - p by omega]
   have ep : (wd o p, o.snd.fst - p, o.snd.snd && decide (o.snd.fst - p > 1)) = wG o p (o.snd.fst - p) := rfl
   have hp1 : good (wG o p (o.snd.fst - p)) := hlen.1.1
   have hag := (VZ out _ hg hp1).1
   have hal := XU out (wG o p (o.snd.fst - p))
   rw [ep, Xz k (by omega) out _ (by omega) hp1.bnd hg.bnds, qb2 k (by omega) out _ (by omega) hp1.bnd hg.bnds, qc ⟨rfl, rfl⟩]
   have ei : wd r (o.snd.fst - p) = r.1 + (o.snd.fst - p) := by unfold wd; rw [hb, qi (by decide)]
   have h2 : o.2.1 - p ≤ qp outer - r.1 := by omega
   rw [show (o.snd.fst - p == r.snd.fst) = false by exact Z5 (by omega), qg, zA k r _ (by omega) (by omega) (by omega) (by omega), zN k r _ (by omega) (by omega) (by omega) (by omega), qd, qc rfl, qm (by omega) (by omega), ei]
   refine ih (r.1 + (o.snd.fst - p), r.2.1 - (o.snd.fst - p), false) _ j (fun _ => by simpa using hn') ?_ ?_ hag (by omega)
   ·have := hr0.lohi
    unfold lo Go.AM.hi at this
    rw [hb] at this
    simp only [qE, if_false] at this
    rw [Yn]
    refine ⟨by show 1 ≤ r.2.1 - (o.snd.fst - p); omega, ?_, ?_⟩
    ·show 0 ≤ r.1 + (o.snd.fst - p); omega
    ·show r.1 + (o.snd.fst - p) + (r.2.1 - (o.snd.fst - p)) - 1 < 17179869184; omega
   ·show qp outer ≤ r.1 + (o.snd.fst - p) + (r.2.1 - (o.snd.fst - p)) - 1
    omega
  ·obtain ⟨q3, q4⟩ := (Vu k hk outer ho.goods (by omega) r.1 w3 (by omega)).2 (qkK ho.goods hge)
   rw [Ql]
   have q3' : WJ k outer r.fst = some (-1, 0) := q3
   have q4' : qF k outer r.fst = (-1, 0) := q4
   rw [qw (by omega : r.snd.fst > 0), qj, q3', q4', qd, qc rfl]
   rfl
theorem fitsIn.mem {n : Int} : ∀ {l : List Rn}, fitsIn n l → ∀ r ∈ l, hi r < n
 | [], _, r, hr => by simp at hr
 | u :: v, ⟨h1, h2⟩, r, hr => by
  rcases qK.1 hr with rfl | hr
  ·exact h1
  ·exact fitsIn.mem h2 r hr
set_option maxRecDepth 20000 in
theorem qkN (k : Nat) (hk : 304 ≤ k) (inner outer : List Rn) (hin : Chk inner) (ho : Chk outer) : ∀ (d i : Nat) (out : List Rn) (j : Nat), inner.length - i = d → i ≤ inner.length → goods out → out.length ≤ i * 256 → d * 258 < j →
  WS k j inner outer out (i : Int) = some (if ¬ fitsIn (qp outer) (inner.drop i) then ([], 21) else if ((inner.drop i).foldl (fun b r => zp b (steps outer r)) out).length > 256 then ([], 8) else ((inner.drop i).foldl (fun b r => zp b (steps outer r)) out, 0)) := by
 have hil := hin.len
 have hol := ho.len
 intro d
 induction d with
 | zero =>
  intro i out j hd hi hg hl hj
  obtain ⟨j, rfl⟩ := qW (by omega : 0 < j)
  rw [WS, qq (by omega : ¬ (i : Int) < (inner.length : Int)), qg, zh inner i (by omega), List.foldl_nil, qi (fun h : ¬ fitsIn (qp outer) [] => h trivial)]
  by_cases h : out.length > 256
  ·have e : Y0 k out = some ([], 8) := by
    unfold Y0; rw [qw (by omega), qj]
   have ev : qah k out = ([], 8) := by unfold qah; rw [e]; rfl
   rw [e, ev, qc h]; rfl
  ·have e : Y0 k out = some (out, 0) := by
    unfold Y0; rw [qq (by omega), qg]
   have ev : qah k out = (out, 0) := by unfold qah; rw [e]; rfl
   rw [e, ev, qi h]; rfl
 | succ d ih =>
  intro i out j hd hi hg hl hj
  obtain ⟨j, rfl⟩ := qW (by omega : 0 < j)
  have h : i < inner.length := by omega
  have hmem : inner.getD i T3.dflt ∈ inner := by simp [h]
  have hgr : good (inner.getD i T3.dflt) := hin.goods.mem _ hmem
  rw [WS, qw (by omega : (i : Int) < (inner.length : Int)), qj, qc ⟨by omega, by omega⟩, qt inner i T3.dflt h, qe]
  generalize inner.getD i T3.dflt = r at hgr
  rw [List.foldl_cons]
  have hsl := qpD outer r
  have hal := qkh (steps outer r) out
  rcases Int.lt_or_le (Go.AM.hi r) (qp outer) with hh | hh
  ·obtain ⟨s1, s2, s3⟩ := Z1 outer r ho.goods hgr hh
   obtain ⟨j', rfl⟩ : ∃ m, j = m + (steps outer r).length := ⟨j - (steps outer r).length, by omega⟩
   have hb1 : (zp out (steps outer r)).length ≤ (i + 1) * 256 := by omega
   have hb2 : d * 258 < j' := by omega
   have e1 := qhW k hk inner outer (i : Int) ho (steps outer r).length r out j' rfl hgr hh hg (by omega)
   have e2 := ih (i + 1) (zp out (steps outer r)) j' (by omega) (by omega) (qcj _ out hg s1).1 hb1 hb2
   rw [e1, qH i (by omega), e2]
   by_cases hf : fitsIn (qp outer) (inner.drop (i + 1))
   ·rw [qi (fun h : ¬ fitsIn (qp outer) (inner.drop (i + 1)) => h hf), qi (fun h : ¬ fitsIn (qp outer) (r :: inner.drop (i + 1)) => h ⟨hh, hf⟩)]
   ·rw [qc hf, qc (fun h : fitsIn (qp outer) (r :: inner.drop (i + 1)) => hf h.2)]
  ·have hpl : (wc outer r.1 (qp outer)).length ≤ 256 := by have := Xv outer r.1 (qp outer); omega
   obtain ⟨j', rfl⟩ : ∃ m, j = m + 256 + 1 := ⟨j - 257, by omega⟩
   have e1 := qgH k hk inner outer (i : Int) ho 256 r out j' (fun _ => hpl) hgr hh hg (by omega)
   rw [e1, qc (fun h : fitsIn (qp outer) (r :: inner.drop (i + 1)) => by have := h.1; omega)]
theorem qcS (k : Nat) (hk : 70000 ≤ k) (inner outer : List Rn) : qfw k inner outer = some (V9 inner outer) := by
 unfold qfw V9
 rw [vU k (by omega), Qy k (by omega), vU k (by omega), Qy k (by omega), qd, qd, qc rfl]
 by_cases h1 : chk inner = 0
 ·rw [show (chk inner != 0) = false by simp [h1], qg, qc rfl, qi (fun h : chk inner ≠ 0 => h h1)]
  by_cases h2 : chk outer = 0
  ·have c1 := wU.1 h1
   have c2 := wU.1 h2
   have l1 := c1.len
   rw [show (chk outer != 0) = false by simp [h2], qg, qi (fun h : chk outer ≠ 0 => h h2)]
   have := qkN k (by omega) inner outer c1 c2 inner.length 0 [] k (by omega) (by omega) trivial (by simp) (by omega)
   exact this
  ·rw [show (chk outer != 0) = true by simp [h2], qj, qc h2]
 ·rw [show (chk inner != 0) = true by simp [h1], qj, qc h1]
theorem qmR (k : Nat) (hk : 70000 ≤ k) (inner outer : List Rn) : YR k inner outer = V9 inner outer := by
 unfold YR; rw [qcS k hk]; rfl
end Go.AM
namespace Go.AM
open Go
theorem qck : ∀ (l : List Sp) (b : Int), (∀ s ∈ l, b ≤ s.1) → l.Pairwise (fun x y => x.1 ≤ y.1) → Asc b l
 | [], _, _, _ => trivial
 | s :: t, b, h, hp => by
  obtain ⟨h1, h2⟩ := zR.1 hp
  exact ⟨h s (by simp), qck t s.1 (fun u hu => h1 u hu) h2⟩
def nf (l : List Sp) : List Sp := jn0 (WL l)
theorem In.small {l : List Sp} (h : In 0 17179869184 l) : ∀ x ∈ l, Z8 x.1 := fun x hx => by
 obtain ⟨a, b, c⟩ := h.mem x hx
 exact ⟨a, by omega⟩
theorem qCL {l : List Sp} (h : In 0 17179869184 l) : Asc 0 (WL l) :=
 qck _ 0 (fun s hs => (h.mem s ((Q0 h.small).mem_iff.1 hs)).1) qqb
theorem qjo {l : List Sp} (h : In 0 17179869184 l) : Nr (-1) (nf l) := qCk _ _ (qCL h)
theorem qsl {l : List Sp} (h : In 0 17179869184 l) (x : Int) : Qu (nf l) x ↔ Qu l x := by
 unfold nf
 rw [qvI _ 0 x (qCL h), qE1 (Q0 h.small)]
theorem qcQ {l : List Sp} (h : In 0 17179869184 l) : In 0 17179869184 (nf l) :=
 qCj _ (In.of fun s hs => h.mem s ((Q0 h.small).mem_iff.1 hs))
theorem qbW {l : List Sp} (h : In 0 17179869184 l) : (nf l).length ≤ l.length := by
 have := qvJ (WL l)
 rw [(Q0 h.small).length_eq] at this
 exact this
theorem qv5 {l m : List Sp} (h : In 0 17179869184 l) (hm : Nr (-1) m) (he : ∀ x, Qu m x ↔ Qu l x) : m = nf l :=
 Nr.uniq hm (qjo h) fun x => (he x).trans (qsl h x).symm
theorem qn6 {l : List Sp} (h : In 0 17179869184 l) (hn : Nr (-1) l) : nf l = l := (qv5 h hn fun _ => Iff.rfl).symm
def zV (l : List Sp) : Int := if l.length > 256 then 8 else if l.all (fun s => decide (0 ≤ s.1 ∧ s.1 ≤ s.2 ∧ s.2 ≤ 17179869184)) = true then 0 else 1
theorem Ze {l : List Sp} : zV l = 0 ↔ l.length ≤ 256 ∧ In 0 17179869184 l := by
 unfold zV
 constructor
 ·intro h
  by_cases h1 : l.length > 256
  ·rw [qc h1] at h; omega
  ·rw [qi h1] at h
   by_cases h2 : l.all (fun s => decide (0 ≤ s.1 ∧ s.1 ≤ s.2 ∧ s.2 ≤ 17179869184)) = true
   ·exact ⟨by omega, In.of fun s hs => of_decide_eq_true (vB.1 h2 s hs)⟩
   ·rw [qi h2] at h; omega
 ·rintro ⟨h1, h2⟩
  rw [qi (by omega), qc (vB.2 fun s hs => qw (h2.mem s hs))]
def Wz (l : List Sp) : List Sp × Int := if zV l ≠ 0 then ([], zV l) else (nf l, 0)
def qag (l : List Sp) : Int × Int := if zV l ≠ 0 then (0, zV l) else (tot (nf l), 0)
end Go.AM
namespace Go.AM
open Go
def WK : List Int → Int → List Int
 | [], n => [n]
 | x :: t, n => if x < n then x :: WK t n else if x = n then x :: t else n :: x :: t
theorem qjh : ∀ (l : List Int) (n x : Int), x ∈ WK l n ↔ x = n ∨ x ∈ l
 | [], n, x => by simp [WK]
 | y :: t, n, x => by
  unfold WK
  by_cases h : y < n
  ·rw [qc h]; simp only [qK, qjh t n x]
   constructor
   ·rintro (h | h | h) <;> simp [h]
   ·rintro (h | h | h) <;> simp [h]
  ·rw [qi h]
   by_cases h2 : y = n
   ·rw [qc h2]; simp only [qK]; subst h2
    constructor
    ·intro h; exact .inr h
    ·rintro (h | h)
     ·exact .inl h
     ·exact h
   ·rw [qi h2]; simp
theorem qfG : ∀ (l : List Int) (n : Int), l.Pairwise (· < ·) → (WK l n).Pairwise (· < ·)
 | [], n, _ => by simp [WK]
 | y :: t, n, hp => by
  obtain ⟨h1, h2⟩ := zR.1 hp
  unfold WK
  by_cases h : y < n
  ·rw [qc h]
   refine zR.2 ⟨fun x hx => ?_, qfG t n h2⟩
   rcases (qjh t n x).1 hx with rfl | hx
   ·exact h
   ·exact h1 x hx
  ·rw [qi h]
   by_cases h2 : y = n
   ·rw [qc h2]; exact hp
   ·rw [qi h2]
    refine zR.2 ⟨fun x hx => ?_, hp⟩
    rcases qK.1 hx with rfl | hx
    ·omega
    ·have := h1 x hx; omega
theorem qer : ∀ (l : List Int) (n : Int), (WK l n).length ≤ l.length + 1
 | [], n => by simp [WK]
 | y :: t, n => by
  unfold WK
  split
  ·have := qer t n; simp; omega
  ·split <;> simp
def Q4 : List Int → List Sp → List Int
 | acc, [] => acc
 | acc, s :: t => Q4 (WK (WK acc s.1) s.2) t
theorem qo0 : ∀ (l : List Sp) (acc : List Int) (x : Int), x ∈ Q4 acc l ↔ x ∈ acc ∨ ∃ s ∈ l, x = s.1 ∨ x = s.2
 | [], acc, x => by simp [Q4]
 | s :: t, acc, x => by
  rw [Q4, qo0 t, qjh, qjh]
  simp only [qK]
  constructor
  ·rintro ((h | h | h) | ⟨u, hu, h⟩)
   ·exact .inr ⟨s, .inl rfl, .inr h⟩
   ·exact .inr ⟨s, .inl rfl, .inl h⟩
   ·exact .inl h
   ·exact .inr ⟨u, .inr hu, h⟩
  ·rintro (h | ⟨u, rfl | hu, h | h⟩)
   ·exact .inl (.inr (.inr h))
   ·exact .inl (.inr (.inl h))
   ·exact .inl (.inl h)
   ·exact .inr ⟨u, hu, .inl h⟩
   ·exact .inr ⟨u, hu, .inr h⟩
theorem qg4 : ∀ (l : List Sp) (acc : List Int), acc.Pairwise (· < ·) → (Q4 acc l).Pairwise (· < ·)
 | [], acc, h => h
 | s :: t, acc, h => qg4 t _ (qfG _ _ (qfG _ _ h))
theorem qoZ : ∀ (l : List Sp) (acc : List Int), (Q4 acc l).length ≤ acc.length + 2 * l.length
 | [], acc => by simp [Q4]
 | s :: t, acc => by
  have h1 := qoZ t (WK (WK acc s.1) s.2)
  have h2 := qer (WK acc s.1) s.2
  have h3 := qer acc s.1
  rw [Q4]; simp only [wB]; omega
def ZD (l : List Sp) (x : Int) : Bool := l.any fun s => decide (s.1 ≤ x) && decide (x < s.2)
theorem qrV (l : List Sp) (x : Int) : ZD l x = true ↔ Qu l x := by
 rw [Qh]
 unfold ZD
 simp only [List.any_eq_true, qh, decide_eq_true_eq]
def XW (a : List Sp) : Sp → List Int → List Sp
 | c, x :: y :: t => if ZD a x = true then (if c.2 = x then XW a (c.1, y) (y :: t) else c :: XW a (x, y) (y :: t)) else XW a c (y :: t)
 | c, _ => [c]
def qg2 (a : List Sp) : List Int → List Sp
 | x :: y :: t => if ZD a x = true then XW a (x, y) (y :: t) else qg2 a (y :: t)
 | _ => []
def seg (a : List Sp) : List Int → Int → Prop
 | x :: y :: t, z => (ZD a x = true ∧ x ≤ z ∧ z < y) ∨ seg a (y :: t) z
 | _, _ => False
theorem qiA (a : List Sp) : ∀ (l : List Int) (c : Sp) (b : Int), b < c.1 → c.1 < c.2 → l.Pairwise (· < ·) → (∀ x ∈ l, c.2 ≤ x) → Nr b (XW a c l)
 | [], c, b, h1, h2, _, _ => ⟨h1, h2, trivial⟩
 | [x], c, b, h1, h2, _, _ => ⟨h1, h2, trivial⟩
 | x :: y :: t, c, b, h1, h2, hp, hc => by
  obtain ⟨p1, p2⟩ := zR.1 hp
  have hxy := p1 y (by simp)
  have hcx := hc x (by simp)
  have hyt : ∀ u ∈ y :: t, y ≤ u := fun u hu => by
   rcases qK.1 hu with rfl | hu
   ·exact V6 _
   ·have := (zR.1 p2).1 u hu; omega
  unfold XW
  by_cases q : ZD a x = true
  ·rw [qc q]
   by_cases q2 : c.2 = x
   ·rw [qc q2]; exact qiA a (y :: t) (c.1, y) b h1 (by show c.1 < y; omega) p2 hyt
   ·rw [qi q2]; exact ⟨h1, h2, qiA a (y :: t) (x, y) c.2 (by show c.2 < x; omega) hxy p2 hyt⟩
  ·rw [qi q]; exact qiA a (y :: t) c b h1 h2 p2 fun u hu => by have := hyt u hu; omega
theorem qe8 (a : List Sp) : ∀ (l : List Int) (c : Sp) (z : Int), l.Pairwise (· < ·) → (∀ x ∈ l, c.2 ≤ x) → c.1 < c.2 → (Qu (XW a c l) z ↔ (c.1 ≤ z ∧ z < c.2) ∨ seg a l z)
 | [], c, z, _, _, _ => by simp [XW, Qu, seg]
 | [x], c, z, _, _, _ => by simp [XW, Qu, seg]
 | x :: y :: t, c, z, hp, hc, h2 => by
  obtain ⟨p1, p2⟩ := zR.1 hp
  have hxy := p1 y (by simp)
  have hcx := hc x (by simp)
  have hyt : ∀ u ∈ y :: t, y ≤ u := fun u hu => by
   rcases qK.1 hu with rfl | hu
   ·exact V6 _
   ·have := (zR.1 p2).1 u hu; omega
  unfold XW seg
  by_cases q : ZD a x = true
  ·rw [qc q]
   by_cases q2 : c.2 = x
   ·rw [qc q2, qe8 a (y :: t) (c.1, y) z p2 hyt (by show c.1 < y; omega)]
    constructor
    ·rintro (h | h)
     ·have h : c.1 ≤ z ∧ z < y := h
      by_cases q3 : z < c.2
      ·exact .inl ⟨h.1, q3⟩
      ·exact .inr (.inl ⟨q, by omega, h.2⟩)
     ·exact .inr (.inr h)
    ·rintro (h | ⟨_, h⟩ | h)
     ·exact .inl ⟨h.1, by show z < y; omega⟩
     ·exact .inl ⟨by show c.1 ≤ z; omega, h.2⟩
     ·exact .inr h
   ·rw [qi q2]
    show (c.1 ≤ z ∧ z < c.2) ∨ Qu (XW a (x, y) (y :: t)) z ↔ _
    rw [qe8 a (y :: t) (x, y) z p2 hyt hxy]
    constructor
    ·rintro (h | h | h)
     ·exact .inl h
     ·exact .inr (.inl ⟨q, h⟩)
     ·exact .inr (.inr h)
    ·rintro (h | ⟨_, h⟩ | h)
     ·exact .inl h
     ·exact .inr (.inl h)
     ·exact .inr (.inr h)
  ·rw [qi q, qe8 a (y :: t) c z p2 (fun u hu => by have := hyt u hu; omega) h2]
   constructor
   ·rintro (h | h)
    ·exact .inl h
    ·exact .inr (.inr h)
   ·rintro (h | ⟨h, _⟩ | h)
    ·exact .inl h
    ·exact absurd h q
    ·exact .inr h
theorem quz (a : List Sp) : ∀ (l : List Int) (b : Int), l.Pairwise (· < ·) → (∀ x ∈ l, b < x) → Nr b (qg2 a l)
 | [], b, _, _ => trivial
 | [x], b, _, _ => trivial
 | x :: y :: t, b, hp, hb => by
  obtain ⟨p1, p2⟩ := zR.1 hp
  have hxy := p1 y (by simp)
  have hyt : ∀ u ∈ y :: t, y ≤ u := fun u hu => by
   rcases qK.1 hu with rfl | hu
   ·exact V6 _
   ·have := (zR.1 p2).1 u hu; omega
  unfold qg2
  by_cases q : ZD a x = true
  ·rw [qc q]; exact qiA a (y :: t) (x, y) b (hb x (by simp)) hxy p2 hyt
  ·rw [qi q]; exact quz a (y :: t) b p2 fun u hu => hb u (by simp [hu])
theorem qrJ (a : List Sp) : ∀ (l : List Int) (z : Int), l.Pairwise (· < ·) → (Qu (qg2 a l) z ↔ seg a l z)
 | [], z, _ => Iff.rfl
 | [x], z, _ => Iff.rfl
 | x :: y :: t, z, hp => by
  obtain ⟨p1, p2⟩ := zR.1 hp
  have hxy := p1 y (by simp)
  have hyt : ∀ u ∈ y :: t, y ≤ u := fun u hu => by
   rcases qK.1 hu with rfl | hu
   ·exact V6 _
   ·have := (zR.1 p2).1 u hu; omega
  unfold qg2 seg
  by_cases q : ZD a x = true
  ·rw [qc q, qe8 a (y :: t) (x, y) z p2 hyt hxy]
   constructor
   ·rintro (h | h)
    ·exact .inl ⟨q, h⟩
    ·exact .inr h
   ·rintro (⟨_, h⟩ | h)
    ·exact .inl h
    ·exact .inr h
  ·rw [qi q, qrJ a (y :: t) z p2]
   exact ⟨.inr, fun h => h.elim (fun h => absurd h.1 q) id⟩
theorem qwD (a : List Sp) (h0 : ∀ s ∈ a, s.1 ≤ s.2) : ∀ (l : List Int) (z : Int), l.Pairwise (· < ·) → (∀ s ∈ a, s.1 ≤ z → z < s.2 → (s.2 ∈ l ∧ (s.1 ∈ l ∨ ∀ x ∈ l, s.1 ≤ x))) → (∀ s ∈ a, ∀ x ∈ l, s.1 ≤ x → x < s.2 → s.2 ∈ l) → (∀ x ∈ l, z < x) ∨ (seg a l z ↔ Qu a z)
 | [], z, _, h, _ => .inl (by simp)
 | [x], z, _, h, _ => by
  by_cases hz : z < x
  ·left; simpa using hz
  ·right
   refine ⟨fun h => h.elim, fun hh => ?_⟩
   obtain ⟨s, hs, h1, h2⟩ := (Qh a z).1 hh
   obtain ⟨k1, k2⟩ := h s hs h1 h2
   have : s.2 = x := by simpa using k1
   omega
 | x :: y :: t, z, hp, h, h' => by
  obtain ⟨p1, p2⟩ := zR.1 hp
  have hxy := p1 y (by simp)
  have hyt : ∀ u ∈ y :: t, y ≤ u := fun u hu => by
   rcases qK.1 hu with rfl | hu
   ·exact V6 _
   ·have := (zR.1 p2).1 u hu; omega
  by_cases hz : z < x
  ·left
   intro u hu
   rcases qK.1 hu with rfl | hu
   ·exact hz
   ·have := hyt u hu; omega
  ·right
   by_cases hzy : z < y
   ·-- between x and y
    have hno : ¬ seg a (y :: t) z := by
     have : ∀ (l : List Int), (∀ u ∈ l, z < u) → ¬ seg a l z := fun l => by
      induction l with
      | nil => intro _ h; exact h
      | cons u v ih =>
       intro hu hs
       cases v with
       | nil => exact hs
       | cons w r =>
        rcases hs with ⟨_, h1, _⟩ | hs
        ·have := hu u (by simp); omega
        ·exact ih (fun q hq => hu q (by simp [hq])) hs
     exact this _ fun u hu => by have := hyt u hu; omega
    constructor
    ·rintro (⟨h1, h2, h3⟩ | h1)
     ·obtain ⟨s, hs, k1, k2⟩ := (Qh a x).1 ((qrV a x).1 h1)
      have k3 := h' s hs x (by simp) k1 k2
      have : y ≤ s.2 := by
       rcases qK.1 k3 with e | e
       ·omega
       ·exact hyt _ e
      exact (Qh a z).2 ⟨s, hs, by omega, by omega⟩
     ·exact absurd h1 hno
    ·intro hh
     obtain ⟨s, hs, k1, k2⟩ := (Qh a z).1 hh
     obtain ⟨k3, k4⟩ := h s hs k1 k2
     left
     refine ⟨(qrV a x).2 ((Qh a x).2 ⟨s, hs, ?_, by omega⟩), by omega, hzy⟩
     rcases k4 with k4 | k4
     ·rcases qK.1 k4 with e | e
      ·omega
      ·have := hyt _ e; omega
     ·exact k4 x (by simp)
   ·have ih := qwD a h0 (y :: t) z p2 (fun s hs k1 k2 => by
     obtain ⟨k3, k4⟩ := h s hs k1 k2
     refine ⟨?_, ?_⟩
     ·rcases qK.1 k3 with e | e
      ·omega
      ·exact e
     ·rcases k4 with k4 | k4
      ·rcases qK.1 k4 with e | e
       ·exact .inr fun u hu => by have := hyt u hu; omega
       ·exact .inl e
      ·exact .inr fun u hu => k4 u (by simp [hu])) (fun s hs u hu k1 k2 => by
     rcases qK.1 (h' s hs u (by simp [hu]) k1 k2) with e | e
     ·have := hyt u hu; omega
     ·exact e)
    have hsame : seg a (x :: y :: t) z ↔ seg a (y :: t) z := by
     show (ZD a x = true ∧ x ≤ z ∧ z < y) ∨ seg a (y :: t) z ↔ _
     exact ⟨fun h => h.elim (fun h => absurd h.2.2 hzy) id, .inr⟩
    rcases ih with ih | ih
    ·exact absurd (ih y (by simp)) hzy
    ·exact hsame.trans ih
theorem qNG {l : List Sp} (h : In 0 17179869184 l) : qg2 l (Q4 [] l) = nf l := by
 have hs := qg4 l [] List.Pairwise.nil
 have hm : ∀ x, x ∈ Q4 [] l ↔ ∃ s ∈ l, x = s.1 ∨ x = s.2 := fun x => by rw [qo0]; simp
 refine qv5 h (quz l _ (-1) hs fun x hx => ?_) fun z => ?_
 ·obtain ⟨s, hs, hx⟩ := (hm x).1 hx
  have := h.mem s hs
  rcases hx with rfl | rfl <;> omega
 ·rw [qrJ l _ z hs]
  rcases qwD l (fun s hs => (h.mem s hs).2.1) (Q4 [] l) z hs (fun s hs _ _ => ⟨(hm _).2 ⟨s, hs, .inr rfl⟩, .inl ((hm _).2 ⟨s, hs, .inl rfl⟩)⟩) (fun s hs x _ _ _ => (hm _).2 ⟨s, hs, .inr rfl⟩) with k | k
  ·constructor
   ·intro hseg
    exfalso
    have : ∀ (m : List Int), (∀ u ∈ m, z < u) → ¬ seg l m z := fun m => by
     induction m with
     | nil => intro _ h; exact h
     | cons u v ih =>
      intro hu hs
      cases v with
      | nil => exact hs
      | cons w r =>
       rcases hs with ⟨_, h1, _⟩ | hs
       ·have := hu u (by simp); omega
       ·exact ih (fun q hq => hu q (by simp [hq])) hs
    exact this _ k hseg
   ·intro hh
    obtain ⟨s, hs, k1, k2⟩ := (Qh l z).1 hh
    have := k _ ((hm s.1).2 ⟨s, hs, .inl rfl⟩)
    omega
  ·exact k
theorem qBt (a b : Sp) : Vd T21 a b = decide (a = b) := by
 show ((a.1 == b.1) && (a.2 == b.2)) = _
 by_cases h1 : a.1 = b.1 <;> by_cases h2 : a.2 = b.2 <;> simp [h1, h2, Prod.ext_iff]
theorem qte (k : Nat) (l : List Sp) (hl : l.length ≤ 256) : ∀ (j i : Nat), i ≤ l.length → l.length - i < j →
  X2 k j l (l.length : Int) (i : Int) = some (if (l.drop i).all (fun s => decide (0 ≤ s.1 ∧ s.1 ≤ s.2 ∧ s.2 ≤ 17179869184)) = true then 0 else 1) := by
 intro j
 induction j with
 | zero => intros; omega
 | succ j ih =>
  intro i hi hj
  rw [X2]
  by_cases h : i < l.length
  ·rw [qw (by omega : (i : Int) < (l.length : Int)), qj, qc ⟨by omega, by omega⟩, qt l i T21.dflt h, qe, List.all_cons]
   generalize l.getD i T21.dflt = s
   by_cases hs : 0 ≤ s.1 ∧ s.1 ≤ s.2 ∧ s.2 ≤ 17179869184
   ·rw [qq (by omega : ¬ s.fst < 0), qq (by omega : ¬ s.fst > s.snd), qq (by omega : ¬ s.snd > 17179869184), Bool.or_self, Bool.or_self, qg, qH i (by omega), ih (i + 1) (by omega) (by omega), qw hs, wH]
   ·have : (decide (s.fst < 0) || decide (s.fst > s.snd) || decide (s.snd > 17179869184)) = true := by
     by_cases a : s.fst < 0
     ·rw [qw a]; rfl
     ·by_cases b : s.fst > s.snd
      ·rw [qw b, qS2]; rfl
      ·rw [qw (by omega : s.snd > 17179869184), qS2]
    rw [this, qj, qq hs, wE, qi (by decide)]
  ·rw [qq (by omega : ¬ (i : Int) < (l.length : Int)), qg, zh l i (by omega)]
   rfl
theorem XG (k : Nat) (hk : 300 ≤ k) (l : List Sp) : Y7 k l = some (zV l) := by
 unfold Y7 zV
 by_cases h : l.length > 256
 ·rw [qw (by omega : (l.length : Int) > 256), qj, qc h]
 ·rw [qq (by omega : ¬ (l.length : Int) > 256), qg, qi h]
  exact qte k l (by omega) k 0 (by omega) (by omega)
theorem qb7 (k : Nat) (hk : 300 ≤ k) (l : List Sp) : Vr k l = zV l := by
 unfold Vr; rw [XG k hk]; rfl
theorem qpi (pre : List Sp) (c : Sp) (h : pre.length < 4611686018427387904) : (qa .i64 (((pre ++ [c]).length : Int) - 1)).toNat = pre.length := by
 rw [qT, qz, qm (by omega) (by omega)]; omega
theorem qph (pre : List Sp) (c d : Sp) : (pre ++ [c]).getD pre.length d = c := by simp
theorem qpj (pre : List Sp) (c d : Sp) : (pre ++ [c]).set pre.length d = pre ++ [d] := by simp
theorem qqd (k : Nat) (l : List Sp) (hl : l.length ≤ 100000) : ∀ (j i : Nat), i ≤ l.length → l.length - i < j →
  (∀ last : Sp, last.1 ≥ last.2 → vS k j (l.length : Int) (i : Int) [] last l = some (jn0 (l.drop i))) ∧
  (∀ (pre : List Sp) (c last : Sp), pre.length ≤ i → (last.1 ≥ last.2 ∨ last.2 ≤ c.2) → vS k j (l.length : Int) (i : Int) (pre ++ [c]) last l = some (pre ++ jn c (l.drop i))) := by
 intro j
 induction j with
 | zero => intros; omega
 | succ j ih =>
  intro i hi hj
  by_cases h : i < l.length
  ·refine ⟨fun last hla => ?_, fun pre c last hp hla => ?_⟩
   ·rw [vS, qw (by omega : (i : Int) < (l.length : Int)), qj, qc ⟨by omega, by omega⟩, qt l i T21.dflt h, qe, qBt, jn0]
    obtain ⟨ih1, ih2⟩ := ih (i + 1) (by omega) (by omega)
    generalize l.getD i T21.dflt = s at *
    by_cases q : s.1 ≥ s.2
    ·rw [qw q, vA, qj, qc q, qH i (by omega)]
     exact ih1 s q
    ·have hne : ¬ s = last := fun e => q (e ▸ hla)
     rw [qq q, qq hne, vH, qg, qi q, qH i (by omega)]
     rw [qc ⟨fun e => (by simp at e), fun e => (by simp at e)⟩]
     show (bif decide ((0 : Int) > 0) && _ then _ else _) = _
     rw [qq (by omega), wE, qg, qc (by simp), wk]
     exact ih2 [] s s (by simp) (.inr (V6 _))
   ·rw [vS, qw (by omega : (i : Int) < (l.length : Int)), qj, qc ⟨by omega, by omega⟩, qt l i T21.dflt h, qe, qBt, jn]
    obtain ⟨ih1, ih2⟩ := ih (i + 1) (by omega) (by omega)
    generalize l.getD i T21.dflt = s at *
    have hlen : (pre ++ [c]).length = pre.length + 1 := by simp
    by_cases q : s.1 ≥ s.2
    ·rw [qw q, vA, qj, qc q, qH i (by omega)]
     exact ih2 pre c s (by omega) (.inl q)
    ·rw [qi q, qq q, vH]
     by_cases he : s = last
     ·have h2 : s.2 ≤ c.2 := by
       subst he
       rcases hla with h | h
       ·exact absurd h q
       ·exact h
      rw [qw he, qj, qH i (by omega), qc (by omega), qi (by omega)]
      exact ih2 pre c s (by omega) (.inr h2)
     ·have hidx : (0 : Int) ≤ qa .i64 (((pre ++ [c]).length : Int) - 1) ∧ qa .i64 (((pre ++ [c]).length : Int) - 1) < ((pre ++ [c]).length : Int) := by
       rw [hlen, qm (by omega) (by omega)]; exact ⟨by omega, by omega⟩
      rw [qq he, qg, qc ⟨fun _ => hidx.1, fun _ => hidx.2⟩, qw (by rw [hlen]; omega), wH, qpi pre c (by omega), qph, qpj, qH i (by omega)]
      by_cases q2 : s.1 ≤ c.2
      ·rw [qw q2, qj, qc ⟨hidx.1, hidx.2, hidx.1, hidx.2⟩, qc q2]
       exact ih2 pre (c.1, if s.2 > c.2 then s.2 else c.2) s (by omega) (.inr (by show s.2 ≤ if s.2 > c.2 then s.2 else c.2; split <;> omega))
      ·rw [qq q2, qg, qc (by rw [hlen, qz]; omega), qi q2]
       rw [ih2 (pre ++ [c]) s s (by simp; omega) (.inr (V6 _))]
       simp
  ·have hd := zh l i (by omega)
   refine ⟨fun last hla => ?_, fun pre c last hp hla => ?_⟩
   ·rw [vS, qq (by omega : ¬ (i : Int) < (l.length : Int)), qg, hd]; rfl
   ·rw [vS, qq (by omega : ¬ (i : Int) < (l.length : Int)), qg, hd]; rfl
theorem WM (k : Nat) (l : List Sp) (h : In 0 17179869184 l) (hl : l.length ≤ 100000) (hk : l.length < k) : Xg k l = some (nf l) := by
 have e1 : qbx k l = some l := by
  unfold qbx; rw [qc (by omega)]
 have v1 : qam k l = l := by unfold qam; rw [e1]; rfl
 have e2 : qbz k l = some (WL l) := by
  unfold qbz
  rw [qc ⟨vB.2 fun x hx => qw (h.small x hx), by omega⟩, qth h.small]
 have v2 : qcf k l = WL l := by unfold qcf; rw [e2]; rfl
 have hlen := (Q0 h.small).length_eq
 unfold Xg
 rw [e1, v1, e2, v2, qd, qd, qc rfl, qc rfl]
 exact (qqd k (WL l) (by omega) k 0 (by omega) (by omega)).1 (0, 0) (V6 _)
theorem Vv (k : Nat) (l : List Sp) (h : In 0 17179869184 l) (hl : l.length ≤ 100000) (hk : l.length < k) : vZ k l = nf l := by
 unfold vZ; rw [WM k l h hl hk]; rfl
def wa : List Sp → List Int
 | [] => []
 | s :: t => s.1 :: s.2 :: wa t
theorem YX : ∀ l : List Sp, (wa l).length = 2 * l.length
 | [] => rfl
 | s :: t => by simp only [wa, wB, YX t]; omega
theorem qg9 : ∀ (l : List Sp) (p : Nat), p < l.length → (wa l).getD (2 * p) 0 = (l.getD p (0, 0)).1
 | s :: t, 0, _ => rfl
 | s :: t, p + 1, h => by
  have := qg9 t p (by simpa using h)
  rw [show 2 * (p + 1) = 2 * p + 1 + 1 by omega]
  simpa [wa] using this
theorem qo2 : ∀ (l : List Sp) (p : Nat), p < l.length → (wa l).getD (2 * p + 1) 0 = (l.getD p (0, 0)).2
 | s :: t, 0, _ => rfl
 | s :: t, p + 1, h => by
  have := qo2 t p (by simpa using h)
  rw [show 2 * (p + 1) + 1 = 2 * p + 1 + 1 + 1 by omega]
  simpa [wa] using this
theorem qg8 : ∀ (a b : List Sp), wa (a ++ b) = wa a ++ wa b
 | [], b => rfl
 | s :: t, b => by simp [wa, qg8 t b]
theorem qha : ∀ {b : Int} {l : List Sp}, Nr b l → (wa l).Pairwise (fun x y => x ≤ y) ∧ ∀ x ∈ wa l, b ≤ x
 | _, [], _ => ⟨List.Pairwise.nil, by simp [wa]⟩
 | b, s :: t, ⟨h1, h2, h3⟩ => by
  obtain ⟨i1, i2⟩ := qha h3
  refine ⟨zR.2 ⟨fun x hx => ?_, zR.2 ⟨fun x hx => i2 x hx, i1⟩⟩, fun x hx => ?_⟩
  ·rcases qK.1 hx with rfl | hx
   ·omega
   ·have := i2 x hx; omega
  ·rcases qK.1 hx with rfl | hx
   ·omega
   ·rcases qK.1 hx with rfl | hx
    ·omega
    ·have := i2 x hx; omega
theorem Nr.get : ∀ {b : Int} {l : List Sp}, Nr b l → ∀ (p : Nat), p < l.length → (l.getD p (0, 0)).1 < (l.getD p (0, 0)).2 ∧ (p + 1 < l.length → (l.getD p (0, 0)).2 < (l.getD (p + 1) (0, 0)).1)
 | _, [], _, p, h => by simp at h
 | b, s :: t, ⟨h1, h2, h3⟩, 0, h => by
  refine ⟨h2, fun h' => ?_⟩
  cases t with
  | nil => simp at h'
  | cons u v => exact h3.1
 | b, s :: t, ⟨h1, h2, h3⟩, p + 1, h => by
  have := Nr.get h3 p (by simpa using h)
  simpa using this
theorem qqg (k j : Nat) (a : List Sp) (h : In 0 17179869184 a) (hn : Nr (-1) a) (hl : a.length ≤ 256) (hk : 300 ≤ k) : Y8 k (j + 1) a = some (a, 0) := by
 rw [Y8, WM k a h (by omega) (by omega), Vv k a h (by omega) (by omega), qn6 h hn, qd, qc rfl, qq (by omega), qg]
theorem qqf (k : Nat) (hk : 300 ≤ k) (a : List Sp) (h : In 0 17179869184 a) (hn : Nr (-1) a) (hl : a.length ≤ 256) : ∀ (d p : Nat) (j : Nat), a.length - p = d → p ≤ a.length → 7 * d + 2 ≤ j →
  zu k j a [] (p : Int) 0 ((wa a).length : Int) ((2 * p : Nat) : Int) (wa a) (a.take p) = some (a, 0) := by
 intro d
 induction d with
 | zero =>
  intro p j hd hp hj
  obtain ⟨j, rfl⟩ : ∃ m, j = m + 2 := ⟨j - 2, by omega⟩
  have hpa : p = a.length := by omega
  subst hpa
  rw [zu, YX, qq (by omega), qg, List.take_length]
  exact qqg k j a h hn hl hk
 | succ d ih =>
  intro p j hd hp hj
  obtain ⟨j, rfl⟩ : ∃ m, j = m + 7 := ⟨j - 7, by omega⟩
  have hpl : p < a.length := by omega
  have hEl := YX a
  have e1 := qg9 a p hpl
  have e2 := qo2 a p hpl
  obtain ⟨n1, n2⟩ := hn.get p hpl
  have htk := zz a p (0, 0) hpl
  have hd0 : T21.dflt = ((0, 0) : Sp) := rfl
  have hz : (RTy.int IntKind.i64).dflt = (0 : Int) := rfl
  generalize hs : a.getD p (0, 0) = s at *
  have b18 : zu k (j + 7) a [] (p : Int) 0 ((wa a).length : Int) ((2 * p : Nat) : Int) (wa a) (a.take p) = zw k (j + 6) a [] (p : Int) 0 ((2 * p : Nat) : Int) s.1 ((wa a).length : Int) ((2 * p : Nat) : Int) (wa a) (a.take p) := by
   rw [show j + 7 = (j + 6) + 1 by omega, zu, qw (by omega), qj, qc ⟨by omega, by omega⟩, qe, hz, e1]
  have b20 : zw k (j + 6) a [] (p : Int) 0 ((2 * p : Nat) : Int) s.1 ((wa a).length : Int) ((2 * p : Nat) : Int) (wa a) (a.take p) = zS k (j + 5) a [] (p : Int) 0 ((2 * p : Nat) : Int) s.1 ((wa a).length : Int) ((2 * p : Nat) : Int) (wa a) (a.take p) := by
   rw [show j + 6 = (j + 5) + 1 by omega, zw, qc ⟨fun _ => by omega, fun _ => by omega⟩, qe, hd0, hs, qq (by omega : ¬ s.2 ≤ s.1), XT, qg]
  have b22 : zS k (j + 5) a [] (p : Int) 0 ((2 * p : Nat) : Int) s.1 ((wa a).length : Int) ((2 * p : Nat) : Int) (wa a) (a.take p) = zu k (j + 4) a [] (p : Int) 0 ((wa a).length : Int) ((2 * p + 1 : Nat) : Int) (wa a) (a.take (p + 1)) := by
   rw [show j + 5 = (j + 4) + 1 by omega, zS, qc ⟨fun e => by simp at e, fun e => by simp at e⟩, show (decide ((0 : Int) < (([] : List Sp).length : Int)) && _) = false from rfl, qg, qH (2 * p) (by omega)]
   rw [qc ⟨fun _ => by omega, fun _ => by omega⟩, qe, hz, e2, show ((((2 * p + 1 : Nat) : Int) == ((wa a).length : Int)) = false) from Z5 (by omega), show (s.2 == s.1) = false from Z5 (by omega), Bool.or_self, qg]
   rw [qe, hd0, hs, qw (by omega : (p : Int) < (a.length : Int)), qw (by omega : s.fst ≤ s.1), Bool.and_self]
   have ek : ∀ b, qik k true b = true := fun b => rfl
   have ef : ∀ b, qel k true b = some true := fun b => rfl
   rw [ek, ef, qc ⟨fun _ => by omega, fun _ => by omega, fun e => by simp at e, fun e => by simp at e, rfl⟩, qj, qc ⟨by omega, by omega, by rw [qz, WZ]; omega⟩, htk]
  have c18 : zu k (j + 4) a [] (p : Int) 0 ((wa a).length : Int) ((2 * p + 1 : Nat) : Int) (wa a) (a.take (p + 1)) = zw k (j + 3) a [] (p : Int) 0 ((2 * p + 1 : Nat) : Int) s.2 ((wa a).length : Int) ((2 * p + 1 : Nat) : Int) (wa a) (a.take (p + 1)) := by
   rw [show j + 4 = (j + 3) + 1 by omega, zu, qw (by omega), qj, qc ⟨by omega, by omega⟩, qe, hz, e2]
  have c20 : zw k (j + 3) a [] (p : Int) 0 ((2 * p + 1 : Nat) : Int) s.2 ((wa a).length : Int) ((2 * p + 1 : Nat) : Int) (wa a) (a.take (p + 1)) = zw k (j + 2) a [] ((p + 1 : Nat) : Int) 0 ((2 * p + 1 : Nat) : Int) s.2 ((wa a).length : Int) ((2 * p + 1 : Nat) : Int) (wa a) (a.take (p + 1)) := by
   rw [show j + 3 = (j + 2) + 1 by omega, zw, qc ⟨fun _ => by omega, fun _ => by omega⟩, qe, hd0, hs, qw (by omega : s.snd ≤ s.2), qw (by omega : (p : Int) < (a.length : Int)), Bool.and_self, qj, qH p (by omega)]
  by_cases hlast : p + 1 < a.length
  ·have n2 := n2 hlast
   have e3 := qg9 a (p + 1) hlast
   obtain ⟨m1, _⟩ := hn.get (p + 1) hlast
   generalize hu : a.getD (p + 1) (0, 0) = u at *
   have d20 : zw k (j + 2) a [] ((p + 1 : Nat) : Int) 0 ((2 * p + 1 : Nat) : Int) s.2 ((wa a).length : Int) ((2 * p + 1 : Nat) : Int) (wa a) (a.take (p + 1)) = zS k (j + 1) a [] ((p + 1 : Nat) : Int) 0 ((2 * p + 1 : Nat) : Int) s.2 ((wa a).length : Int) ((2 * p + 1 : Nat) : Int) (wa a) (a.take (p + 1)) := by
    rw [show j + 2 = (j + 1) + 1 by omega, zw, qc ⟨fun _ => by omega, fun _ => by omega⟩, qe, hd0, hu, qq (by omega : ¬ u.2 ≤ s.2), XT, qg]
   have d22 : zS k (j + 1) a [] ((p + 1 : Nat) : Int) 0 ((2 * p + 1 : Nat) : Int) s.2 ((wa a).length : Int) ((2 * p + 1 : Nat) : Int) (wa a) (a.take (p + 1)) = zu k j a [] ((p + 1 : Nat) : Int) 0 ((wa a).length : Int) ((2 * (p + 1) : Nat) : Int) (wa a) (a.take (p + 1)) := by
    rw [zS, qc ⟨fun e => by simp at e, fun e => by simp at e⟩, show (decide ((0 : Int) < (([] : List Sp).length : Int)) && _) = false from rfl, qg, qH (2 * p + 1) (by omega), show 2 * p + 1 + 1 = 2 * (p + 1) by omega]
    rw [qc ⟨fun _ => by omega, fun _ => by omega⟩, qe, hz, e3, show ((((2 * (p + 1) : Nat) : Int) == ((wa a).length : Int)) = false) from Z5 (by omega), show (u.1 == s.2) = false from Z5 (by omega), Bool.or_self, qg]
    rw [qe, hd0, hu, qq (by omega : ¬ u.fst ≤ s.2), XT]
    have ek : ∀ b, qik k false b = false := fun b => rfl
    have ef : ∀ b, qel k false b = some false := fun b => rfl
    rw [ek, ef, qc ⟨fun _ => by omega, fun _ => by omega, fun e => by simp at e, fun e => by simp at e, rfl⟩, qg]
   rw [b18, b20, b22, c18, c20, d20, d22]
   exact ih (p + 1) j (by omega) (by omega) (by omega)
  ·have hpa : p + 1 = a.length := by omega
   have d20 : zw k (j + 2) a [] ((p + 1 : Nat) : Int) 0 ((2 * p + 1 : Nat) : Int) s.2 ((wa a).length : Int) ((2 * p + 1 : Nat) : Int) (wa a) (a.take (p + 1)) = zS k (j + 1) a [] ((p + 1 : Nat) : Int) 0 ((2 * p + 1 : Nat) : Int) s.2 ((wa a).length : Int) ((2 * p + 1 : Nat) : Int) (wa a) (a.take (p + 1)) := by
    rw [show j + 2 = (j + 1) + 1 by omega, zw, qc ⟨fun _ => by omega, fun e => of_decide_eq_true e⟩, qq (by omega : ¬ ((p + 1 : Nat) : Int) < (a.length : Int)), wE, qg]
   have d22 : zS k (j + 1) a [] ((p + 1 : Nat) : Int) 0 ((2 * p + 1 : Nat) : Int) s.2 ((wa a).length : Int) ((2 * p + 1 : Nat) : Int) (wa a) (a.take (p + 1)) = zu k j a [] ((p + 1 : Nat) : Int) 0 ((wa a).length : Int) ((2 * (p + 1) : Nat) : Int) (wa a) (a.take (p + 1)) := by
    rw [zS, qc ⟨fun e => by simp at e, fun e => by simp at e⟩, show (decide ((0 : Int) < (([] : List Sp).length : Int)) && _) = false from rfl, qg, qH (2 * p + 1) (by omega), show 2 * p + 1 + 1 = 2 * (p + 1) by omega]
    have hq : (((2 * (p + 1) : Nat) : Int) == ((wa a).length : Int)) = true := by simp only [beq_iff_eq]; omega
    rw [hq, qc (show (true = false → (0 : Int) ≤ ((2 * (p + 1) : Nat) : Int)) ∧ (true = false → ((2 * (p + 1) : Nat) : Int) < ((wa a).length : Int)) from ⟨fun e => (by cases e), fun e => (by cases e)⟩), vA, qj]
   rw [b18, b20, b22, c18, c20, d20, d22]
   exact ih (p + 1) j (by omega) (by omega) (by omega)
theorem qqc (k : Nat) (hk : 10 ≤ k) (a : List Sp) (hl : a.length ≤ 1000) : qek k [a, []] = some a := by
 obtain ⟨k, rfl⟩ : ∃ m, k = m + 10 := ⟨k - 10, by omega⟩
 have hg : qby (k + 10) (a.length : Int) = some [] := by
  unfold qby; rw [qc ⟨by omega, by omega⟩]
 have hv : qeV (k + 10) (a.length : Int) = [] := by unfold qeV; rw [hg]; rfl
 have L2 : (([a, []] : List (List Sp)).length : Int) = 2 := rfl
 unfold qek
 rw [L2]
 rw [Ws, L2, qw (by omega), qj, qc (show (0 : Int) ≤ 0 ∧ (0 : Int) < 2 from ⟨by omega, by omega⟩)]
 show (bif decide (qa .i64 (0 + (a.length : Int)) < 0) then none else Ws (k + 10) (k + 9) [a, []] (qa .i64 (0 + (a.length : Int))) [a, []] 2 (qa .i64 (0 + 1))) = _
 rw [qm (i := 0 + (a.length : Int)) (by omega) (by omega), Int.zero_add, qq (by omega), qg, show qa .i64 (0 + 1) = 1 from qH 0 (by omega)]
 rw [Ws, L2, qw (by omega), qj, qc (show (0 : Int) ≤ 1 ∧ (1 : Int) < 2 from ⟨by omega, by omega⟩)]
 show (bif decide (qa .i64 ((a.length : Int) + (0 : Int)) < 0) then none else Ws (k + 10) (k + 8) [a, []] (qa .i64 ((a.length : Int) + (0 : Int))) [a, []] 2 (qa .i64 (1 + 1))) = _
 rw [qm (i := (a.length : Int) + (0 : Int)) (by omega) (by omega), Int.add_zero, qq (by omega), qg, show qa .i64 (1 + 1) = 2 from qH 1 (by omega)]
 rw [Ws, qq (by omega), qg, hg, hv, qd, qc rfl]
 rw [L2, QE, L2, qw (by omega), qj, qc (show (0 : Int) ≤ 0 ∧ (0 : Int) < 2 from ⟨by omega, by omega⟩)]
 show (if (([] : List Sp).length + a.length) * 16 ≤ 140737488355328 then QE (k + 10) (k + 6) [a, []] 2 (qa .i64 (0 + 1)) ([] ++ a) else none) = _
 rw [qc (show (([] : List Sp).length + a.length) * 16 ≤ 140737488355328 by rw [List.length_nil]; omega), show qa .i64 (0 + 1) = 1 from qH 0 (by omega)]
 rw [QE, L2, qw (by omega), qj, qc (show (0 : Int) ≤ 1 ∧ (1 : Int) < 2 from ⟨by omega, by omega⟩)]
 show (if (([] ++ a : List Sp).length + ([] : List Sp).length) * 16 ≤ 140737488355328 then QE (k + 10) (k + 5) [a, []] 2 (qa .i64 (1 + 1)) ([] ++ a ++ []) else none) = _
 rw [qc (show (([] ++ a : List Sp).length + ([] : List Sp).length) * 16 ≤ 140737488355328 by rw [List.length_nil, wk]; omega), show qa .i64 (1 + 1) = 2 from qH 1 (by omega)]
 rw [QE, qq (by omega), qg]
 show some ([] ++ a ++ []) = some a
 simp
theorem qqe (k : Nat) (hk : 300 ≤ k) (a : List Sp) (h : In 0 17179869184 a) (hn : Nr (-1) a) (hl : a.length ≤ 256) : ∀ (j i : Nat), i ≤ a.length → (a.length - i) + (7 * a.length + 3) ≤ j →
  V1 k j a [] (a.length : Int) (i : Int) (wa (a.take i)) a = some (a, 0) := by
 intro j
 induction j with
 | zero => intros; omega
 | succ j ih =>
  intro i hi hj
  rw [V1]
  by_cases h' : i < a.length
  ·rw [qw (by omega : (i : Int) < (a.length : Int)), qj, qc ⟨by omega, by omega⟩, qe, qc (by rw [YX, WZ]; show (2 * min i a.length + 2) * 8 ≤ _; omega), qH i (by omega)]
   have := ih (i + 1) (by omega) (by omega)
   rw [zz a i (0, 0) h', qg8] at this
   exact this
  ·have hs : qbA k (wa a) = some (wa a) := by
    unfold qbA
    rw [qc (by rw [YX]; omega), qwF, List.mergeSort_of_pairwise]
    exact (qha hn).1.imp fun h => qw h
   have hv : qcg k (wa a) = wa a := by unfold qcg; rw [hs]; rfl
   rw [qq (by omega : ¬ (i : Int) < (a.length : Int)), qg, zj (by omega), hs, hv, qd, qc rfl]
   exact qqf k hk a h hn hl a.length 0 j (by omega) (by omega) (by omega)
theorem qdE (k : Nat) (hk : 2100 ≤ k) (l : List Sp) : qbB k l = some (Wz l) := by
 have e : qem k l [] = some (Wz l) := by
  unfold qem Wz
  rw [XG k (by omega), qb7 k (by omega), XG k (by omega), qb7 k (by omega), qd, qc rfl]
  by_cases h1 : zV l = 0
  ·obtain ⟨l1, l2⟩ := Ze.1 h1
   have hnl := qbW l2
   have h0 : In 0 17179869184 ([] : List Sp) := trivial
   rw [show (zV l != 0) = false by simp [h1], qg, qi (fun h : zV l ≠ 0 => h h1), qd, qc rfl, show (zV [] != 0) = false from rfl, qg]
   rw [WM k l l2 (by omega) (by omega), Vv k l l2 (by omega) (by omega), WM k [] h0 (by simp) (by simp; omega), Vv k [] h0 (by simp) (by simp; omega), qn6 h0 trivial, qc ⟨rfl, rfl⟩]
   have hc := qqc k (by omega) (nf l) (by omega)
   have hv : qce k [nf l, []] = nf l := by unfold qce; rw [hc]; rfl
   rw [hc, hv, qd, qc rfl]
   exact qqe k (by omega) (nf l) (qcQ l2) (qjo l2) (by omega) k 0 (by omega) (by omega)
  ·rw [show (zV l != 0) = true by simp [h1], qj, qc h1]
 have ev : qeW k l [] = Wz l := by unfold qeW; rw [e]; rfl
 unfold qbB
 rw [e, ev]; rfl
theorem qj9 (k : Nat) (hk : 2100 ≤ k) (l : List Sp) : qan k l = Wz l := by
 unfold qan; rw [qdE k hk]; rfl
theorem qtf (k : Nat) (a : List Sp) (h : In 0 17179869184 a) (hl : a.length ≤ 256) : ∀ (j i : Nat) (n : Int), i ≤ a.length → a.length - i < j → 0 ≤ n → n ≤ (i : Int) * 17179869184 →
  X3 k j n a (a.length : Int) (i : Int) = some (n + tot (a.drop i), 0) := by
 intro j
 induction j with
 | zero => intros; omega
 | succ j ih =>
  intro i n hi hj h0 h1
  rw [X3]
  by_cases h' : i < a.length
  ·have hm := h.mem (a.getD i T21.dflt) (by simp [h'])
   rw [qw (by omega : (i : Int) < (a.length : Int)), qj, qc ⟨by omega, by omega⟩, qt a i T21.dflt h', qe]
   generalize a.getD i T21.dflt = s at hm
   rw [qm (i := s.snd - s.fst) (by omega) (by omega), qm (i := n + (s.snd - s.fst)) (by omega) (by omega), qH i (by omega), ih (i + 1) _ (by omega) (by omega) (by omega) (by omega), tot, Int.add_assoc]
  ·rw [qq (by omega : ¬ (i : Int) < (a.length : Int)), qg, zh a i (by omega)]
   simp [tot]
theorem qh6 (k : Nat) (hk : 300 ≤ k) (l : List Sp) : qbC k l = some (qag l) := by
 unfold qbC qag
 rw [XG k (by omega), qb7 k (by omega), qd, qc rfl]
 by_cases h1 : zV l = 0
 ·obtain ⟨l1, l2⟩ := Ze.1 h1
  have hnl := qbW l2
  rw [show (zV l != 0) = false by simp [h1], qg, qi (fun h : zV l ≠ 0 => h h1), WM k l l2 (by omega) (by omega), Vv k l l2 (by omega) (by omega), qd, qc rfl]
  have := qtf k (nf l) (qcQ l2) (by omega) k 0 0 (by omega) (by omega) (by omega) (by omega)
  rw [Int.zero_add] at this
  exact this
 ·rw [show (zV l != 0) = true by simp [h1], qj, qc h1]
theorem qtg (k : Nat) (hk : 300 ≤ k) (l : List Sp) : XN k l = qag l := by
 unfold XN; rw [qh6 k hk]; rfl
theorem qpY (k : Nat) (l : List Sp) (hl : l.length ≤ 256) : ∀ (j i : Nat), i ≤ l.length → l.length - i < j →
  qba k j l (i : Int) = some (if (l.drop i).all (fun s => decide (0 ≤ s.1 ∧ s.1 ≤ s.2 ∧ s.2 ≤ 17179869184)) = true then 0 else 1) := by
 intro j
 induction j with
 | zero => intros; omega
 | succ j ih =>
  intro i hi hj
  rw [qba]
  by_cases h : i < l.length
  ·rw [qw (by omega : (i : Int) < (l.length : Int)), qj, qc (by (repeat' apply And.intro) <;> (intros; omega)), qt l i T21.dflt h, qe, List.all_cons]
   generalize l.getD i T21.dflt = s
   by_cases hs : 0 ≤ s.1 ∧ s.1 ≤ s.2 ∧ s.2 ≤ 17179869184
   ·rw [qq (by omega : ¬ s.fst < 0), qq (by omega : ¬ s.fst > s.snd), qq (by omega : ¬ s.snd > 17179869184), Bool.or_self, Bool.or_self, qg, qH i (by omega), ih (i + 1) (by omega) (by omega), qw hs, wH]
   ·have : (decide (s.fst < 0) || decide (s.fst > s.snd) || decide (s.snd > 17179869184)) = true := by
     by_cases a : s.fst < 0
     ·rw [qw a]; rfl
     ·by_cases b : s.fst > s.snd
      ·rw [qw b, qS2]; rfl
      ·rw [qw (by omega : s.snd > 17179869184), qS2]
    rw [this, qj, qq hs, wE, qi (by decide)]
  ·rw [qq (by omega : ¬ (i : Int) < (l.length : Int)), qg, zh l i (by omega)]
   rfl
theorem qas (k : Nat) (hk : 300 ≤ k) (l : List Sp) : qfv k l = some (zV l) := by
 unfold qfv zV
 by_cases h : l.length > 256
 ·rw [qw (by omega : (l.length : Int) > 256), qj, qc h]
 ·rw [qq (by omega : ¬ (l.length : Int) > 256), qg, qi h]
  exact qpY k l (by omega) k 0 (by omega) (by omega)
theorem qgo (k : Nat) (hk : 300 ≤ k) (l : List Sp) : qc9 k l = zV l := by
 unfold qc9; rw [qas k hk]; rfl
theorem qsG (k : Nat) (l : List Int) (hl : l.length ≤ 10000) (n : Int) : ∀ (j i : Nat), i ≤ l.length → l.length - i < j →
  qbe k j l n (i : Int) = some (l.take i ++ WK (l.drop i) n) := by
 intro j
 induction j with
 | zero => intros; omega
 | succ j ih =>
  intro i hi hj
  have hz : I.dflt = (0 : Int) := rfl
  have tk : ([] ++ qS3 ((i : Int).toNat - ql 0) (Wm (ql 0) l) : List Int) = l.take i := by
   rw [qe, show ql 0 = 0 from rfl]; simp
  have dk : qS3 ((l.length : Int).toNat - (i : Int).toNat) (Wm (i : Int).toNat l) = l.drop i := by
   rw [qe, qe]; exact zj (by rw [List.length_drop]; omega)
  rw [qbe]
  rw [qc (show (decide ((i : Int) < (l.length : Int)) = true → (0 : Int) ≤ (i : Int)) ∧ (decide ((i : Int) < (l.length : Int)) = true → (i : Int) < (l.length : Int)) from ⟨fun _ => by omega, fun e => of_decide_eq_true e⟩)]
  have fin : (if ((0 : Int) ≤ (0 : Int)) ∧ ((0 : Int) ≤ (i : Int)) ∧ ((i : Int) ≤ (l.length : Int)) ∧ (((0 : Nat) + (qS3 ((i : Int).toNat - ql (0 : Int)) (Wm (ql (0 : Int)) l)).length) * (8 : Nat) ≤ (140737488355328 : Nat)) then
       if ((([] ++ qS3 ((i : Int).toNat - ql (0 : Int)) (Wm (ql (0 : Int)) l)).length + [n].length) * (8 : Nat) ≤ (140737488355328 : Nat)) then
        if ((0 : Int) ≤ (i : Int)) ∧ ((i : Int) ≤ (l.length : Int)) ∧ ((l.length : Int) ≤ (l.length : Int)) ∧ ((([] ++ qS3 ((i : Int).toNat - ql (0 : Int)) (Wm (ql (0 : Int)) l) ++ [n]).length + (qS3 ((l.length : Int).toNat - (i : Int).toNat) (Wm (i : Int).toNat l)).length) * (8 : Nat) ≤ (140737488355328 : Nat)) then
         some ([] ++ qS3 ((i : Int).toNat - ql 0) (Wm (ql 0) l) ++ [n] ++ qS3 ((l.length : Int).toNat - (i : Int).toNat) (Wm (i : Int).toNat l))
        else none
       else none
      else none) = some (l.take i ++ [n] ++ l.drop i) := by
   have e0 : qS3 ((i : Int).toNat - ql 0) (Wm (ql 0) l) = l.take i := by rw [← tk]; rfl
   rw [dk, e0, wk]
   rw [qc ⟨by omega, by omega, by omega, by rw [WZ]; omega⟩, qc (by rw [WZ, qz]; omega), qc ⟨by omega, by omega, by omega, by rw [qT, WZ, qz, List.length_drop]; omega⟩]
  rw [fin]
  by_cases h : i < l.length
  ·rw [qw (by omega : (i : Int) < (l.length : Int)), wH, wH, qc ⟨fun _ => by omega, fun _ => by omega⟩, qe, hz, qt l i 0 h, WK]
   by_cases h1 : l.getD i 0 < n
   ·rw [qw h1, qj, qc h1, qH i (by omega), ih (i + 1) (by omega) (by omega), zz l i 0 h]
    simp
   ·rw [qq h1, qg, qi h1]
    by_cases h2 : l.getD i 0 = n
    ·rw [show (l.getD i 0 == n) = true from beq_iff_eq.2 h2, qj, qc h2, ← qt l i 0 h, qlu]
    ·rw [show (l.getD i 0 == n) = false from Z5 h2, qg, qi h2]
     simp
  ·rw [qq (by omega : ¬ (i : Int) < (l.length : Int)), wE, wE, qg, qc ⟨fun e => (by cases e), fun e => (by cases e)⟩, qg, zh l i (by omega)]
   simp [WK]
theorem qb1 (k : Nat) (l : List Int) (hl : l.length ≤ 10000) (hk : l.length < k) (n : Int) : qcF k l n = some (WK l n) := qsG k l hl n k 0 (by omega) (by omega)
theorem qhV (k : Nat) (l : List Int) (hl : l.length ≤ 10000) (hk : l.length < k) (n : Int) : YQ k l n = WK l n := by
 unfold YQ; rw [qb1 k l hl hk]; rfl
theorem qsE (k : Nat) (hk : 2000 ≤ k) (a : List Sp) (hl : a.length ≤ 256) : ∀ (j i : Nat) (acc : List Int), i ≤ a.length → a.length - i + 1 < j → acc.length ≤ 2 * i →
  qbd k j a [] acc (i : Int) = some (Q4 acc (a.drop i)) := by
 intro j
 induction j with
 | zero => intros; omega
 | succ j ih =>
  intro i acc hi hj ha
  rw [qbd]
  by_cases h : i < a.length
  ·rw [qw (by omega : (i : Int) < (a.length : Int)), qj, qt a i T21.dflt h, qe, Q4]
   generalize a.getD i T21.dflt = s
   have h1 := qer acc s.1
   have h2 := qer (WK acc s.1) s.2
   rw [qb1 k acc (by omega) (by omega), qhV k acc (by omega) (by omega), qb1 k (WK acc s.fst) (by omega) (by omega), qhV k (WK acc s.fst) (by omega) (by omega), qc ⟨by omega, by omega, rfl, by omega, by omega, rfl⟩, qH i (by omega)]
   exact ih (i + 1) _ (by omega) (by omega) (by omega)
  ·obtain ⟨j, rfl⟩ := qW (by omega : 0 < j)
   rw [qq (by omega : ¬ (i : Int) < (a.length : Int)), qg, zh a i (by omega), qep]
   rfl
theorem qhU (k : Nat) (hk : 2000 ≤ k) (a : List Sp) (hl : a.length ≤ 256) : qmf k a [] = some (Q4 [] a) := qsE k hk a hl k 0 [] (by omega) (by omega) (by simp)
theorem qsF (k : Nat) (hk : 2000 ≤ k) (a : List Sp) (hl : a.length ≤ 256) : qna k a [] = Q4 [] a := by
 unfold qna; rw [qhU k hk a hl]; rfl
theorem qt0 (k : Nat) (a : List Sp) (hl : a.length ≤ 10000) (x : Int) : ∀ (j i : Nat), i ≤ a.length → a.length - i < j →
  qbb k j a x (i : Int) = some (ZD (a.drop i) x) := by
 intro j
 induction j with
 | zero => intros; omega
 | succ j ih =>
  intro i hi hj
  rw [qbb]
  by_cases h : i < a.length
  ·rw [qw (by omega : (i : Int) < (a.length : Int)), qj, qc ⟨by omega, by omega, fun _ => by omega, fun _ => by omega⟩, qt a i T21.dflt h, qe]
   generalize a.getD i T21.dflt = s
   show _ = some ((decide (s.1 ≤ x) && decide (x < s.2)) || ZD (a.drop (i + 1)) x)
   cases hc : (decide (s.fst ≤ x) && decide (x < s.snd))
   ·rw [qg, vH, qH i (by omega)]
    exact ih (i + 1) (by omega) (by omega)
   ·rw [qj, vA]
  ·rw [qq (by omega : ¬ (i : Int) < (a.length : Int)), qg, zh a i (by omega)]
   rfl
theorem Vk (k : Nat) (a : List Sp) (hl : a.length ≤ 10000) (hk : a.length < k) (x : Int) : qi7 k a x = some (ZD a x) := qt0 k a hl x k 0 (by omega) (by omega)
theorem YH (k : Nat) (a : List Sp) (hl : a.length ≤ 10000) (hk : a.length < k) (x : Int) : YO k a x = ZD a x := by
 unfold YO; rw [Vk k a hl hk]; rfl
theorem qmQ (k : Nat) (hk : 300 ≤ k) (a : List Sp) (hl : a.length ≤ 256) (c : List Int) (hc : c.length ≤ 10000) : ∀ (j i : Nat), i ≤ c.length → c.length - i < j →
  Qx k j a [] 0 c (i : Int) [] = some (qg2 a (c.drop i)) ∧
  ∀ (pre : List Sp) (l : Sp), pre.length ≤ i → Qx k j a [] 0 c (i : Int) (pre ++ [l]) = some (pre ++ XW a l (c.drop i)) := by
 intro j
 induction j with
 | zero => intros; omega
 | succ j ih =>
  intro i hi hj
  have hz : I.dflt = (0 : Int) := rfl
  by_cases h : i + 1 < c.length
  ·obtain ⟨ih1, ih2⟩ := ih (i + 1) (by omega) (by omega)
   have hd1 := qt c i 0 (by omega)
   have hd2 := qt c (i + 1) 0 h
   rw [hd2] at hd1 ih1 ih2
   generalize hx : c.getD i 0 = x at *
   generalize hy : c.getD (i + 1) 0 = y at *
   have hskip : ∀ b : Bool, ((0 : Int) == 0 && !b && !false || (0 : Int) == 1 && !(b && false) || (0 : Int) == 2 && (!b || false)) = !b := fun b => by cases b <;> rfl
   have hno : ZD ([] : List Sp) x = false := rfl
   refine ⟨?_, fun pre l hp => ?_⟩
   ·rw [Qx, qH i (by omega), qw (by omega), qj, qe, qe, hz, hx, hy, Vk k a (by omega) (by omega), YH k a (by omega) (by omega), Vk k [] (by simp) (by simp; omega), YH k [] (by simp) (by simp; omega), hno, qc ⟨by omega, by omega, rfl, by omega, by omega, rfl⟩, hskip, hd1, qg2]
    cases hb : ZD a x
    ·rw [qS1, qj, qi (by decide)]; exact ih1
    ·rw [ve, qg, qc rfl]
     have hm : qa .i64 ((([] : List Sp).length : Int) - 1) = -1 := by rw [List.length_nil, qm (by omega) (by omega)]; rfl
     rw [hm, qc (show (decide ((-1 : Int) ≥ 0) = true → (0 : Int) ≤ -1) ∧ (decide ((-1 : Int) ≥ 0) = true → (-1 : Int) < (([] : List Sp).length : Int)) ∧ (decide ((-1 : Int) ≥ 0) = true → (0 : Int) ≤ (i : Int)) ∧ (decide ((-1 : Int) ≥ 0) = true → (i : Int) < (c.length : Int)) from ⟨fun e => (by cases e), fun e => (by cases e), fun e => (by cases e), fun e => (by cases e)⟩), show decide ((-1 : Int) ≥ 0) = false from rfl, wE, qg]
     rw [qc ⟨by omega, by omega, by omega, by omega, by simp⟩, wk]
     have := ih2 [] (x, y) (by simp)
     simpa using this
   ·have hlen : (pre ++ [l]).length = pre.length + 1 := by simp
    have hidx : (0 : Int) ≤ qa .i64 (((pre ++ [l]).length : Int) - 1) ∧ qa .i64 (((pre ++ [l]).length : Int) - 1) < ((pre ++ [l]).length : Int) := by
     rw [hlen, qm (by omega) (by omega)]; exact ⟨by omega, by omega⟩
    rw [Qx, qH i (by omega), qw (by omega), qj, qe, qe, hz, hx, hy, Vk k a (by omega) (by omega), YH k a (by omega) (by omega), Vk k [] (by simp) (by simp; omega), YH k [] (by simp) (by simp; omega), hno, qc ⟨by omega, by omega, rfl, by omega, by omega, rfl⟩, hskip, hd1, XW]
    cases hb : ZD a x
    ·rw [qS1, qj, qi (by decide)]; exact ih2 pre l (by omega)
    ·rw [ve, qg, qc rfl, qw hidx.1, wH, qpi pre l (by omega), qph, qpj]
     rw [qc ⟨fun _ => hidx.1, fun _ => hidx.2, fun _ => by omega, fun _ => by omega⟩]
     by_cases hq : l.2 = x
     ·rw [show (l.snd == x) = true by simp [hq], qj, qc ⟨by omega, by omega, hidx.1, hidx.2⟩, qc hq]
      exact ih2 pre (l.1, y) (by omega)
     ·rw [show (l.snd == x) = false from Z5 hq, qg, qc ⟨by omega, by omega, by omega, by omega, by rw [hlen, qz]; omega⟩, qi hq]
      rw [ih2 (pre ++ [l]) (x, y) (by simp; omega)]
      simp
  ·have hstop : decide (qa .i64 ((i : Int) + 1) < (c.length : Int)) = false := by rw [qH i (by omega)]; exact qq (by omega)
   have hd : c.drop i = [] ∨ ∃ x, c.drop i = [x] := by
    by_cases h2 : i < c.length
    ·right
     rw [qt c i 0 h2, zh c (i + 1) (by omega)]
     exact ⟨_, rfl⟩
    ·left; exact zh c i (by omega)
   refine ⟨?_, fun pre l hp => ?_⟩
   ·rw [Qx, hstop, qg]
    rcases hd with e | ⟨x, e⟩ <;> rw [e] <;> rfl
   ·rw [Qx, hstop, qg]
    rcases hd with e | ⟨x, e⟩ <;> rw [e] <;> rfl
theorem Xy (k : Nat) (hk : 2000 ≤ k) (l : List Sp) : qcE k l = some (Wz l) := by
 have e : qi9 k l [] 0 = some (Wz l) := by
  unfold qi9 Wz
  rw [qas k (by omega), qgo k (by omega), qas k (by omega), qgo k (by omega), qd, qc rfl]
  by_cases h1 : zV l = 0
  ·obtain ⟨l1, l2⟩ := Ze.1 h1
   have hnl := qbW l2
   have hcl := qoZ l []
   rw [show (zV l != 0) = false by simp [h1], qg, qi (fun h : zV l ≠ 0 => h h1), qd, qc rfl, show (zV [] != 0) = false from rfl, qg]
   have ec : qja k l [] 0 = some (nf l) := by
    unfold qja
    rw [qhU k hk l l1, qsF k hk l l1, qd, qc rfl]
    have := (qmQ k (by omega) l l1 (Q4 [] l) (by simp at hcl; omega) k 0 (by omega) (by simp at hcl; omega)).1
    rw [wv, qNG l2] at this
    exact this
   have ev : qjJ k l [] 0 = nf l := by unfold qjJ; rw [ec]; rfl
   rw [ec, ev, qd, qc rfl, qq (by omega), qg]
  ·rw [show (zV l != 0) = true by simp [h1], qj, qc h1]
 have ev : qjI k l [] 0 = Wz l := by unfold qjI; rw [e]; rfl
 unfold qcE
 rw [e, ev]; rfl
theorem qb0 (k : Nat) (hk : 2000 ≤ k) (l : List Sp) : YP k l = Wz l := by
 unfold YP; rw [Xy k hk]; rfl
theorem qgp (k : Nat) (a : List Sp) (e : Int) (h : In 0 17179869184 a) (hl : a.length ≤ 256) : ∀ (j i : Nat) (n : Int), i ≤ a.length → a.length - i < j → 0 ≤ n → n ≤ (i : Int) * 17179869184 →
  qbc k j a e n (i : Int) = some (n + tot (a.drop i), e) := by
 intro j
 induction j with
 | zero => intros; omega
 | succ j ih =>
  intro i n hi hj h0 h1
  rw [qbc]
  by_cases h' : i < a.length
  ·have hm := h.mem (a.getD i T21.dflt) (by simp [h'])
   rw [qw (by omega : (i : Int) < (a.length : Int)), qj, qc ⟨by omega, by omega, by omega, by omega⟩, qt a i T21.dflt h', qe]
   generalize a.getD i T21.dflt = s at hm
   rw [qm (i := n + s.snd) (by omega) (by omega), qm (i := n + s.snd - s.fst) (by omega) (by omega), qH i (by omega), ih (i + 1) _ (by omega) (by omega) (by omega) (by omega), tot]
   congr 2; omega
  ·rw [qq (by omega : ¬ (i : Int) < (a.length : Int)), qg, zh a i (by omega)]
   simp [tot]
theorem qgq (k : Nat) (hk : 2000 ≤ k) (l : List Sp) : qi8 k l = some (qag l) := by
 unfold qi8 qag
 rw [Xy k hk, qb0 k hk, qd, qc rfl]
 unfold Wz
 by_cases h1 : zV l = 0
 ·obtain ⟨l1, l2⟩ := Ze.1 h1
  have hnl := qbW l2
  rw [qi (fun h : zV l ≠ 0 => h h1), qi (fun h : zV l ≠ 0 => h h1)]
  have := qgp k (nf l) 0 (qcQ l2) (by omega) k 0 0 (by omega) (by omega) (by omega) (by omega)
  rw [Int.zero_add] at this
  exact this
 ·rw [qc h1, qc h1]
  have := qgp k [] (zV l) trivial (by simp) k 0 0 (by simp) (by simp; omega) (by omega) (by omega)
  exact this
theorem qpZ (k : Nat) (hk : 2000 ≤ k) (l : List Sp) : qda k l = qag l := by
 unfold qda; rw [qgq k hk]; rfl
end Go.AM
namespace Go.AM
open Go
abbrev Ch := Int × Int × Bool × List Rn   -- Left, Width, Turn, Runs
abbrev Ro := Int × Int × Ch               -- ID, Parent, Cut
abbrev Pt := Int × Int × Int              -- Roll, Across, Along
def look (l : List Ro) (id : Int) : Option Ro := l.find? fun r => r.1 == id
def Vg (m : List Rn) : List Sp × Int := if chk m ≠ 0 then ([], chk m) else (nf (m.map Qd), 0)
def vu (m : List Rn) : Bool := decide (chk m = 0) && (tot (nf (m.map Qd)) == qp m)
def wh (l : List Ro) (W L id : Int) : Int × Int := if id = 0 then (W, L) else match look l id with
 | some r => (r.2.2.2.1, qp r.2.2.2.2.2)
 | none => (0, 0)
def qkl (c : Ch) (w n : Int) : Int :=
 if c.1 < 0 ∨ c.2.1 < 1 ∨ c.1 > w ∨ c.2.1 > w - c.1 then 20 else if chk c.2.2.2 ≠ 0 then chk c.2.2.2 else if c.2.2.2 = [] then 10
 else if vu c.2.2.2 = false then 12 else if fitsIn n c.2.2.2 then 0 else 21
def vK (p : List Ro) (W L : Int) (r : Ro) : Int :=
 if r.1 < 1 ∨ r.1 > 1000000 then 1 else if r.2.1 ≠ 0 ∧ look p r.2.1 = none then 7 else qkl r.2.2 (wh p W L r.2.1).1 (wh p W L r.2.1).2
def Vt (a b : List Rn) : Bool := a.any fun x => b.any fun y => decide (lo x ≤ hi y) && decide (lo y ≤ hi x)
def VV (a b : Ch) : Bool := (decide (a.1 < b.1 + b.2.1) && decide (b.1 < a.1 + a.2.1)) && Vt a.2.2.2 b.2.2.2
def QA (p : List Ro) (r : Ro) : Bool := p.any fun b => (r.2.1 == b.2.1) && VV r.2.2 b.2.2
def w7 (W L : Int) : List Ro → List Ro → Int
 | _, [] => 0
 | p, r :: t => if vK p W L r ≠ 0 then vK p W L r else w7 W L (p ++ [r]) t
def vJ : List Ro → List Ro → Bool
 | _, [] => false
 | p, r :: t => (look p r.1).isSome || vJ (p ++ [r]) t
def zf : List Ro → List Ro → Bool
 | _, [] => false
 | p, r :: t => QA p r || zf (p ++ [r]) t
def wY (l : List Ro) (W L : Int) : Int :=
 if W < 1 ∨ W > 12000 ∨ L < 0 ∨ L > 17179869184 then 1 else if l.length > 512 then 8 else if w7 W L [] l ≠ 0 then w7 W L [] l
 else if vJ [] l = true then 6 else if zf [] l = true then 12 else 0
theorem QZ (a b : List Ro) (id : Int) : look (a ++ b) id = (look a id).or (look b id) := by
 unfold look; exact List.find?_append
theorem zy {l : List Ro} {id : Int} {r : Ro} (h : look l id = some r) : r ∈ l ∧ r.1 = id := by
 unfold look at h
 exact ⟨List.mem_of_find?_eq_some h, by have := List.find?_some h; simpa using this⟩
structure CutOk (c : Ch) (w n : Int) : Prop where
 left : 0 ≤ c.1
 width : 1 ≤ c.2.1
 right : c.1 + c.2.1 ≤ w
 chk : Chk c.2.2.2
 ne : c.2.2.2 ≠ []
 single : vu c.2.2.2 = true
 fits : fitsIn n c.2.2.2
theorem qoX {c : Ch} {w n : Int} : qkl c w n = 0 ↔ CutOk c w n := by
 unfold qkl
 constructor
 ·intro h
  by_cases h1 : c.1 < 0 ∨ c.2.1 < 1 ∨ c.1 > w ∨ c.2.1 > w - c.1
  ·rw [qc h1] at h; omega
  ·rw [qi h1] at h
   by_cases h2 : chk c.2.2.2 ≠ 0
   ·rw [qc h2] at h; exact absurd h h2
   ·rw [qi h2] at h
    by_cases h3 : c.2.2.2 = []
    ·rw [qc h3] at h; omega
    ·rw [qi h3] at h
     by_cases h4 : vu c.2.2.2 = false
     ·rw [qc h4] at h; omega
     ·rw [qi h4] at h
      by_cases h5 : fitsIn n c.2.2.2
      ·exact ⟨by omega, by omega, by omega, wU.1 (Classical.not_not.1 h2), h3, by simpa using h4, h5⟩
      ·rw [qi h5] at h; omega
 ·rintro ⟨h1, h2, h3, h4, h5, h6, h7⟩
  rw [qi (by omega), qi (fun h => h (wU.2 h4)), qi h5, qi (by simp [h6]), qc h7]
structure FitOk (p : List Ro) (W L : Int) (r : Ro) : Prop where
 id0 : 1 ≤ r.1
 id1 : r.1 ≤ 1000000
 parent : r.2.1 = 0 ∨ ∃ q, look p r.2.1 = some q
 cut : CutOk r.2.2 (wh p W L r.2.1).1 (wh p W L r.2.1).2
theorem qfA {p : List Ro} {W L : Int} {r : Ro} : vK p W L r = 0 ↔ FitOk p W L r := by
 unfold vK
 constructor
 ·intro h
  by_cases h1 : r.1 < 1 ∨ r.1 > 1000000
  ·rw [qc h1] at h; omega
  ·rw [qi h1] at h
   by_cases h2 : r.2.1 ≠ 0 ∧ look p r.2.1 = none
   ·rw [qc h2] at h; omega
   ·rw [qi h2] at h
    refine ⟨by omega, by omega, ?_, qoX.1 h⟩
    by_cases h3 : r.2.1 = 0
    ·exact .inl h3
    ·right
     cases h4 : look p r.2.1 with
     | none => exact absurd ⟨h3, h4⟩ h2
     | some q => exact ⟨q, rfl⟩
 ·rintro ⟨h1, h2, h3, h4⟩
  rw [qi (by omega), qi (fun h => by
   rcases h3 with h3 | ⟨q, h3⟩
   ·exact h.1 h3
   ·rw [h3] at h; cases h.2), qoX.2 h4]
inductive Okp (W L : Int) : List Ro → Prop
 | nil : Okp W L []
 | snoc (p : List Ro) (r : Ro) (h : Okp W L p) (f : FitOk p W L r) (n : look p r.1 = none) (c : QA p r = false) : Okp W L (p ++ [r])
structure Reg (l : List Ro) (W L : Int) : Prop where
 w : 1 ≤ W ∧ W ≤ 12000
 len : 0 ≤ L ∧ L ≤ 17179869184
 num : l.length ≤ 512
 ok : Okp W L l
theorem qCP {W L : Int} : ∀ (t p : List Ro), Okp W L p → w7 W L p t = 0 → vJ p t = false → zf p t = false → Okp W L (p ++ t)
 | [], p, h, _, _, _ => by simpa using h
 | r :: t, p, h, he, hd, hc => by
  rw [w7] at he
  rw [vJ, v6] at hd
  rw [zf, v6] at hc
  have hf : vK p W L r = 0 := by
   by_cases q : vK p W L r = 0
   ·exact q
   ·rw [qc q] at he; exact absurd he q
  rw [qi (fun h => h hf)] at he
  have := qCP t (p ++ [r]) (.snoc p r h (qfA.1 hf) (by cases e : look p r.1 <;> simp_all) hc.1) he hd.2 hc.2
  simpa using this
theorem qNP {W L : Int} {l : List Ro} (h : Okp W L l) : ∀ (t p : List Ro), l = p ++ t → w7 W L p t = 0 ∧ vJ p t = false ∧ zf p t = false := by
 induction h with
 | nil =>
  intro t p e
  have : t = [] ∧ p = [] := by
   have := e.symm
   simp at this
   exact ⟨this.2, this.1⟩
  obtain ⟨rfl, rfl⟩ := this
  exact ⟨rfl, rfl, rfl⟩
 | snoc q r h f n c ih =>
  intro t p e
  rcases List.eq_nil_or_concat t with rfl | ⟨t', r', rfl⟩
  ·exact ⟨rfl, rfl, rfl⟩
  ·rw [List.concat_eq_append] at *
   rw [← qeY] at e
   obtain ⟨e1, e2⟩ := List.append_inj' e rfl
   simp only [List.cons.injEq, and_true] at e2
   subst e2
   obtain ⟨i1, i2, i3⟩ := ih t' p e1
   have key : ∀ (t' p : List Ro), w7 W L p t' = 0 → vJ p t' = false → zf p t' = false → vK (p ++ t') W L r = 0 → look (p ++ t') r.1 = none → QA (p ++ t') r = false → w7 W L p (t' ++ [r]) = 0 ∧ vJ p (t' ++ [r]) = false ∧ zf p (t' ++ [r]) = false := fun t' => by
    induction t' with
    | nil =>
     intro p _ _ _ a b c
     rw [zH] at a b c
     rw [wk, w7, vJ, zf, qi (fun h => h a), b, c]
     exact ⟨rfl, rfl, rfl⟩
    | cons u v ih =>
     intro p a1 a2 a3 a4 a5 a6
     rw [w7] at a1
     rw [vJ, v6] at a2
     rw [zf, v6] at a3
     have hf : vK p W L u = 0 := by
      by_cases q : vK p W L u = 0
      ·exact q
      ·rw [qc q] at a1; exact absurd a1 q
     rw [qi (fun h => h hf)] at a1
     have e3 : p ++ u :: v = p ++ [u] ++ v := by simp
     rw [e3] at a4 a5 a6
     obtain ⟨b1, b2, b3⟩ := ih (p ++ [u]) a1 a2.2 a3.2 a4 a5 a6
     rw [qne, w7, vJ, zf, qi (fun h => h hf), a2.1, a3.1]
     exact ⟨b1, b2, b3⟩
   rw [e1] at f n c
   exact key t' p i1 i2 i3 (qfA.2 f) n c
theorem qde {l : List Ro} {W L : Int} : wY l W L = 0 ↔ Reg l W L := by
 unfold wY
 constructor
 ·intro h
  by_cases h1 : W < 1 ∨ W > 12000 ∨ L < 0 ∨ L > 17179869184
  ·rw [qc h1] at h; omega
  ·rw [qi h1] at h
   by_cases h2 : l.length > 512
   ·rw [qc h2] at h; omega
   ·rw [qi h2] at h
    by_cases h3 : w7 W L [] l ≠ 0
    ·rw [qc h3] at h; exact absurd h h3
    ·rw [qi h3] at h
     by_cases h4 : vJ [] l = true
     ·rw [qc h4] at h; omega
     ·rw [qi h4] at h
      by_cases h5 : zf [] l = true
      ·rw [qc h5] at h; omega
      ·have := qCP l [] (W := W) (L := L) .nil (Classical.not_not.1 h3) (by simpa using h4) (by simpa using h5)
       exact ⟨by omega, by omega, by omega, by simpa using this⟩
 ·rintro ⟨h1, h2, h3, h4⟩
  obtain ⟨a, b, c⟩ := qNP h4 l [] rfl
  rw [qi (by omega), qi (by omega), qi (fun h => h a), qi (by rw [b]; decide), qi (by rw [c]; decide)]
theorem qmX {m : List Rn} (h : goods m) : In 0 17179869184 (m.map Qd) := In.of fun s hs => by
 obtain ⟨r, hr, rfl⟩ := List.mem_map.1 hs
 obtain ⟨a, b, c, d⟩ := (h.mem r hr).lohi
 exact ⟨a, by show lo r ≤ hi r + 1; omega, by show hi r + 1 ≤ _; omega⟩
theorem qpp {m : List Rn} (h : Chk m) : Wz (m.map Qd) = (nf (m.map Qd), 0) := by
 unfold Wz
 rw [qi (fun e => e (Ze.2 ⟨by rw [List.length_map]; exact h.len, qmX h.goods⟩))]
theorem qpG {m : List Rn} (h : Chk m) : qag (nf (m.map Qd)) = (tot (nf (m.map Qd)), 0) := by
 have hi := qmX h.goods
 have hl := qbW hi
 have hm := h.len
 rw [List.length_map] at hl
 unfold qag
 rw [qi (fun e => e (Ze.2 ⟨by omega, qcQ hi⟩)), qn6 (qcQ hi) (qjo hi)]
theorem qbO (k : Nat) (r : Rn) (h : good r) : qfr k r = some (Qd r) := by
 have h' := h
 obtain ⟨g1, g2, g3, g4, _⟩ := h'
 obtain ⟨l1, l2, l3, l4⟩ := h.lohi
 unfold qfr
 rw [qm (i := r.snd.fst - 1) (by omega) (by omega), QY k r _ (by omega) (by omega) (by omega) (by omega), WU k r _ (by omega) (by omega) (by omega) (by omega), qky h, qsi h, qm (by omega) (by omega)]
 rfl
theorem qhD (k : Nat) (r : Rn) (h : good r) : wm k r = Qd r := by
 unfold wm; rw [qbO k r h]; rfl
theorem qtX (k : Nat) (hk : 2100 ≤ k) (m : List Rn) (hc : Chk m) : ∀ (j i : Nat), i ≤ m.length → m.length - i + 1 < j →
  qa7 k j m (m.length : Int) (i : Int) ((m.take i).map Qd) = some (nf (m.map Qd), 0) := by
 have hml := hc.len
 intro j
 induction j with
 | zero => intros; omega
 | succ j ih =>
  intro i hi hj
  rw [qa7]
  by_cases h : i < m.length
  ·have hgr : good (m.getD i T3.dflt) := hc.goods.mem _ (by simp [h])
   have ht := zz m i T3.dflt h
   have := ih (i + 1) (by omega) (by omega)
   rw [ht, List.map_append] at this
   rw [qw (by omega : (i : Int) < (m.length : Int)), qj, qc ⟨by omega, by omega⟩, qe, qbO k _ hgr, qhD k _ hgr, qc ⟨rfl, by rw [List.length_map, WZ, qz]; omega⟩, qH i (by omega)]
   exact this
  ·obtain ⟨j, rfl⟩ := qW (by omega : 0 < j)
   rw [qq (by omega : ¬ (i : Int) < (m.length : Int)), qg, zj (by omega), qfq, qdE k hk, qj9 k hk, qpp hc]
   rfl
theorem qdv (k : Nat) (hk : 2100 ≤ k) (m : List Rn) : qfp k m = some (Vg m) := by
 unfold qfp Vg
 rw [QX k (by omega), WT k (by omega), qd, qc rfl]
 by_cases h1 : chk m = 0
 ·have hc := wU.1 h1
  have hml := hc.len
  rw [show (chk m != 0) = false by simp [h1], qg, qi (fun h : chk m ≠ 0 => h h1)]
  exact qtX k hk m hc k 0 (by omega) (by omega)
 ·rw [show (chk m != 0) = true by simp [h1], qj, qc h1]
theorem qjU (k : Nat) (hk : 2100 ≤ k) (m : List Rn) : vb k m = Vg m := by
 unfold vb; rw [qdv k hk]; rfl
theorem qhB (k : Nat) (hk : 2100 ≤ k) (m : List Rn) : qcB k m = some (vu m) := by
 unfold qcB vu
 rw [qdv k hk, qjU k hk, qd, qc rfl]
 unfold Vg
 by_cases h1 : chk m = 0
 ·have hc := wU.1 h1
  have hml := hc.len
  rw [qi (fun h : chk m ≠ 0 => h h1), qw h1, wH]
  show (bif (0 : Int) != 0 then _ else _) = _
  rw [show ((0 : Int) != 0) = false from rfl, qg]
  show (if (qbC k (nf (m.map Qd))).isSome = true then _ else none) = _
  rw [qh6 k (by omega)]
  show (bif ((XN k (nf (m.map Qd))).snd == 0) then _ else _) = _
  rw [qtg k (by omega), qpG hc, Xp k m hc.goods (by omega) (by omega), qbP k m hc.goods (by omega) (by omega)]
  rfl
 ·rw [qc h1, qq h1, wE]
  show (bif chk m != 0 then some false else _) = _
  rw [show (chk m != 0) = true by simp [h1], qj]
theorem qr0 (k : Nat) (hk : 2100 ≤ k) (m : List Rn) : qf7 k m = vu m := by
 unfold qf7; rw [qhB k hk]; rfl
theorem qp1 (k : Nat) (hk : 2100 ≤ k) (m : List Rn) (hc : Chk m) : ∀ (j i : Nat), i ≤ m.length → m.length - i + 1 < j →
  XZ k j m (i : Int) ((m.take i).map Qd) = some (nf (m.map Qd), 0) := by
 have hml := hc.len
 intro j
 induction j with
 | zero => intros; omega
 | succ j ih =>
  intro i hi hj
  rw [XZ]
  by_cases h : i < m.length
  ·have hgr : good (m.getD i T3.dflt) := hc.goods.mem _ (by simp [h])
   have ht := zz m i T3.dflt h
   have := ih (i + 1) (by omega) (by omega)
   rw [ht, List.map_append] at this
   rw [qw (by omega : (i : Int) < (m.length : Int)), qj, qe]
   generalize m.getD i T3.dflt = r at hgr this
   have h' := hgr
   obtain ⟨g1, g2, g3, g4, _⟩ := h'
   obtain ⟨l1, l2, l3, l4⟩ := hgr.lohi
   rw [qm (i := r.snd.fst - 1) (by omega) (by omega), zA k r _ (by omega) (by omega) (by omega) (by omega), zN k r _ (by omega) (by omega) (by omega) (by omega), qky hgr, qsi hgr, qm (i := Go.AM.hi r + 1) (by omega) (by omega), qc ⟨by omega, by omega, by omega, by omega, by omega, by omega, rfl⟩, qc (by rw [List.length_map, WZ, qz]; omega), qH i (by omega)]
   exact this
  ·obtain ⟨j, rfl⟩ := qW (by omega : 0 < j)
   rw [qq (by omega : ¬ (i : Int) < (m.length : Int)), qg, zj (by omega), qcu, Xy k (by omega), qb0 k (by omega), qpp hc]
   rfl
theorem qat (k : Nat) (hk : 2100 ≤ k) (m : List Rn) : YY k m = some (Vg m) := by
 unfold YY Vg
 rw [vU k (by omega), Qy k (by omega), qd, qc rfl]
 by_cases h1 : chk m = 0
 ·have hc := wU.1 h1
  have hml := hc.len
  rw [show (chk m != 0) = false by simp [h1], qg, qi (fun h : chk m ≠ 0 => h h1)]
  exact qp1 k hk m hc k 0 (by omega) (by omega)
 ·rw [show (chk m != 0) = true by simp [h1], qj, qc h1]
theorem qgr (k : Nat) (hk : 2100 ≤ k) (m : List Rn) : ZM k m = Vg m := by
 unfold ZM; rw [qat k hk]; rfl
theorem qeB (k : Nat) (hk : 2100 ≤ k) (m : List Rn) : YZ k m = some (vu m) := by
 unfold YZ vu
 rw [vU k (by omega), Qy k (by omega), qd, qc rfl]
 by_cases h1 : chk m = 0
 ·have hc := wU.1 h1
  have hml := hc.len
  rw [show (chk m != 0) = false by simp [h1], qg, qw h1, wH, qat k hk, qgr k hk]
  unfold Vg
  rw [qi (fun h : chk m ≠ 0 => h h1), qgq k (by omega), qpZ k (by omega), qpG hc, Yo k m hc.goods (by omega) (by omega), qeC k m hc.goods (by omega) (by omega)]
  rfl
 ·rw [show (chk m != 0) = true by simp [h1], qj, qq h1, wE]
theorem qoe (k : Nat) (hk : 2100 ≤ k) (m : List Rn) : qb8 k m = vu m := by
 unfold qb8; rw [qeB k hk]; rfl
end Go.AM
namespace Go.AM
open Go Go.Proofs
noncomputable section
def qs1 (r : Int × Int) : AV := .tup [ri r.1, ri r.2]
abbrev qy0 (a : T3.T) (r : Int × Int) : Prop := CC Tryz.prog 129 [.agg (qB (qr T3 a))] [] (qs1 r) (nb r)
def Y4 (k : Nat) (a : T3.T) : Option (Int × Int) :=
 bif a.2.2 then
 some (qa .i64 (qa .i64 (a.1 - a.2.1) + 1), a.1)
 else
 some (a.1, qa .i64 (qa .i64 (a.1 + a.2.1) - 1))
def XL := fun k a => (Y4 k a).getD (0, 0)
def qnY (k : Nat) : Ke := (129, mo 1, fun
 | [.agg b], [] => (qX [] T3 b).bind fun a => some (.one (qs1 (XL k a), []))
 | _, _ => none)
theorem qKZ (k a r) (h : Y4 k a = some r): qy0 a r := qO Tryz.f129 (go (qA []) [] [] [.autoB [2, 3] true []] (qu h fun h => gL h))
theorem qnx {k a} (h : (Y4 k a).isSome): qy0 a (XL k a) := qJ h (qKZ k a)
abbrev qy1 (a : List T3.T) (b : List T3.T) (r : Bool) : Prop := CC Tryz.prog 87 [ro T3 a, ro T3 b] [] (rb r) (nb r)
def qDC := fun y0 y1 y2 => (⟨qM 47 [(0, ro T3 y0), (1, ro T3 y1), (5, ri y2)], []⟩ : St)
def qDD := fun y0 y1 y2 y3 => (⟨qM 47 [(0, ro T3 y0), (1, ro T3 y1), (5, ri y2), (6, ri y3)], []⟩ : St)
mutual
def Zq (k : Nat) : Nat → List T3.T → List T3.T → Int → Option Bool
 | 0, _, _, _ => none
 | j + 1, y0, y1, y2 =>
 bif y2 < y0.length then
 VD k j y0 y1 y2 0
 else
 some false
def VD (k : Nat) : Nat → List T3.T → List T3.T → Int → Int → Option Bool
 | 0, _, _, _, _ => none
 | j + 1, y0, y1, y2, y3 =>
 bif y3 < y1.length then
 if (0 ≤ y2) ∧ (y2 < y0.length) ∧ ((Y4 k (y0.getD y2.toNat T3.dflt)).isSome) then
 if (0 ≤ y3) ∧ (y3 < y1.length) ∧ ((Y4 k (y1.getD y3.toNat T3.dflt)).isSome) then
 bif (decide ((XL k (y0.getD y2.toNat T3.dflt)).1 ≤ (XL k (y1.getD y3.toNat T3.dflt)).2) && decide ((XL k (y1.getD y3.toNat T3.dflt)).1 ≤ (XL k (y0.getD y2.toNat T3.dflt)).2)) then
 some true
 else
 VD k j y0 y1 y2 (qa .i64 (y3 + 1))
 else none
 else none
 else
 Zq k j y0 y1 (qa .i64 (y2 + 1))
end
def qd6 (k : Nat) (a : List T3.T) (b : List T3.T) : Option Bool :=
 Zq k k a b 0
def qie := fun k a b => (qd6 k a b).getD false
def qJ1 (k : Nat) : Ke := (87, mo 2, fun
 | [.r (.ro f d), .r (.ro i e)], [] => (qC f T3 d).bind fun a => (qC i T3 e).bind fun b => some (.one (rb (qie k a b), []))
 | _, _ => none)
def quP : List (Nat × List Cmd) := [(2, [.autoB [0, 1, 5] false []]), (5, [.autoB [0, 1, 5, 6] false []])]
abbrev qzF := EP Tryz.f87 0 rb nb
theorem qvq (k) : ∀ j, (∀ {y0 y1 y2}, qzF 2 (qDC y0 y1 y2) (Zq k j y0 y1 y2)) ∧ (∀ {y0 y1 y2 y3}, qzF 5 (qDD y0 y1 y2 y3) (VD k j y0 y1 y2 y3))
 | 0 => by and_intros <;> intros <;> exact e0
 | j + 1 => by
  have ih := @qvq k j
  have g := @go (qA [qnY k]) [] quP [.autoB [4] true []]
  refine ⟨?_, ?_⟩
  ·intro y0 y1 y2 r h
   rw [Zq] at h
   exact g (gS h (fun h => gD h 5 ih.2) fun h => gL h)
  ·intro y0 y1 y2 y3 r h
   rw [VD] at h
   exact g (gS h (fun h => gN h (fun q => qf q.1 (qf q.2.1 (qf (qnx q.2.2) qP))) fun h => gN h (fun q => qf q.1 (qf q.2.1 (qf (qnx q.2.2) qP))) fun h => qu h fun h => gD h 5 ih.2) fun h => gD h 2 ih.1)
theorem qK0 (k a b r) (h : qd6 k a b = some r): qy1 a b r := qO Tryz.f87 (go (qA [qnY k]) [] quP [.autoB [4] true []] (gD h 2 (qvq k k).1))
theorem qI2 {k a b} (h : (qd6 k a b).isSome): qy1 a b (qie k a b) := qJ h (qK0 k a b)
abbrev qyX (a : List T5.T) (b : Int) (d : Int) (r : Int) : Prop := CC Tryz.prog 46 [ro T5 a, ri b, ri d] [] (ri r) (nb r)
def qDz := fun y0 y1 y2 y3 => (⟨qM 21 [(0, ro T5 y0), (1, ri y1), (2, ri y2), (7, ri y3)], []⟩ : St)
def Zp (k : Nat) : Nat → List T5.T → Int → Int → Int → Option Int
 | 0, _, _, _, _ => none
 | j + 1, y0, y1, y2, y3 =>
 bif y3 < y1 then
 if (0 ≤ y3) ∧ (y3 < y0.length) then
 bif ((y0.getD y3.toNat T5.dflt).1 == y2) then
 some y3
 else
 Zp k j y0 y1 y2 (qa .i64 (y3 + 1))
 else none
 else
 some (-1)
def Vf (k : Nat) (a : List T5.T) (b : Int) (d : Int) : Option Int :=
 Zp k k a b d 0
def q8 := fun k a b d => (Vf k a b d).getD 0
def qji (k : Nat) : Ke := (46, mo 3, fun
 | [.r (.ro f e), .r (.v (.int .i64 b)), .r (.v (.int .i64 d))], [] => (qC f T5 e).bind fun a => some (.one (ri (q8 k a b d), []))
 | _, _ => none)
def quN : List (Nat × List Cmd) := [(2, [.autoB [0, 1, 2, 7] false []])]
abbrev qMo := EP Tryz.f46 0 ri nb
theorem qvo (k) : ∀ j, (∀ y0 y1 y2 y3, qMo 2 (qDz y0 y1 y2 y3) (Zp k j y0 y1 y2 y3))
 | 0 => by intros; exact e0
 | j + 1 => by
  have ih := @qvo k j
  ·intro y0 y1 y2 y3 r h
   rw [Zp] at h
   exact go (qA []) [] quN [.autoB [6] true []] (gS h (fun h => qU h fun h => qu h fun h => gC h 2 (ih _ _ _ _ _)) fun h => gL h)
theorem qKW (k a b d r) (h : Vf k a b d = some r): qyX a b d r := qO Tryz.f46 (go (qA []) [] quN [.autoB [6] true []] (gC h 2 ((qvo k k) _ _ _ _ _)))
theorem qiw {k a b d} (h : (Vf k a b d).isSome): qyX a b d (q8 k a b d) := qJ h (qKW k a b d)
abbrev qyY (a : List T3.T) (r : Int) : Prop := CC Tryz.prog 43 [ro T3 a] [] (ri r) (nb r)
def qDA := fun y0 y1 y2 => (⟨qM 19 [(0, ro T3 y0), (3, ri y1), (4, ri y2)], []⟩ : St)
def X1 (k : Nat) : Nat → List T3.T → Int → Int → Option Int
 | 0, _, _, _ => none
 | j + 1, y0, y1, y2 =>
 bif y2 < y0.length then
 if (0 ≤ y2) ∧ (y2 < y0.length) then
 X1 k j y0 (qa .i64 (y1 + (y0.getD y2.toNat T3.dflt).2.1)) (qa .i64 (y2 + 1))
 else none
 else
 some y1
def Y2 (k : Nat) (a : List T3.T) : Option Int :=
 X1 k k a 0 0
def Vp := fun k a => (Y2 k a).getD 0
def qnX (k : Nat) : Ke := (43, mo 1, fun
 | [.r (.ro d b)], [] => (qC d T3 b).bind fun a => some (.one (ri (Vp k a), []))
 | _, _ => none)
def quO : List (Nat × List Cmd) := [(3, [.autoB [0, 3, 4] false []])]
abbrev qMp := EP Tryz.f43 0 ri nb
theorem qvp (k) : ∀ j, (∀ y0 y1 y2, qMp 3 (qDA y0 y1 y2) (X1 k j y0 y1 y2))
 | 0 => by intros; exact e0
 | j + 1 => by
  have ih := @qvp k j
  ·intro y0 y1 y2 r h
   rw [X1] at h
   exact go (qA []) [] quO [.autoB [2] true []] (gS h (fun h => qU h fun h => gC h 3 (ih _ _ _ _)) fun h => gL h)
theorem qKX (k a r) (h : Y2 k a = some r): qyY a r := qO Tryz.f43 (go (qA []) [] quO [.autoB [2] true []] (gC h 3 ((qvp k k) _ _ _ _)))
theorem qnw {k a} (h : (Y2 k a).isSome): qyY a (Vp k a) := qJ h (qKX k a)
end
theorem w8 {α : Type} (l : List α) (i : Nat) (d : α) (h : i < l.length) : l.getD i d ∈ l := by simp [h]
theorem Ym {α : Type} (p t : List α) (i : Nat) (d : α) (h : i < p.length) : (p ++ t).getD i d = p.getD i d := by simp [List.getElem?_append_left h]
theorem qEW {α : Type} (p : List α) (i : Nat) (d e : α) (h : i < p.length) : p.getD i d = p.getD i e := by simp [h]
theorem Xm (k : Nat) (r : Rn) (h : good r) : qcA k r = some (lo r, Go.AM.hi r) := by
 obtain ⟨h1, h2, h3, h4, h5, h6⟩ := h
 unfold qcA lo Go.AM.hi
 cases hb : r.2.2
 ·have := h6 hb
  rw [qg, qm (i := r.1 + r.2.1) (by omega) (by omega), qm (by omega) (by omega)]; rfl
 ·have := h5 hb
  rw [qj, qm (i := r.1 - r.2.1) (by omega) (by omega), qm (by omega) (by omega)]; rfl
theorem qbG (k : Nat) (r : Rn) (h : good r) : qaY k r = (lo r, Go.AM.hi r) := by
 unfold qaY; rw [Xm k r h]; rfl
theorem XC (k : Nat) (r : Rn) (h : good r) : Y4 k r = some (lo r, Go.AM.hi r) := by
 obtain ⟨h1, h2, h3, h4, h5, h6⟩ := h
 unfold Y4 lo Go.AM.hi
 cases hb : r.2.2
 ·have := h6 hb
  rw [qg, qm (i := r.1 + r.2.1) (by omega) (by omega), qm (by omega) (by omega)]; rfl
 ·have := h5 hb
  rw [qj, qm (i := r.1 - r.2.1) (by omega) (by omega), qm (by omega) (by omega)]; rfl
theorem qb4 (k : Nat) (r : Rn) (h : good r) : XL k r = (lo r, Go.AM.hi r) := by
 unfold XL; rw [XC k r h]; rfl
def Z2 (x y : Rn) : Bool := decide (lo x ≤ Go.AM.hi y) && decide (lo y ≤ Go.AM.hi x)
theorem qfL (a b : List Rn) : Vt a b = a.any fun x => b.any fun y => Z2 x y := rfl
theorem qpS (k : Nat) (x : Rn) (a : List Rn) (la i : Int) (c : Ch) (m : List Rn) (hm : goods m) (hl : m.length ≤ 256) : ∀ (d q n : Nat), q + d = m.length →
  Yb k (n + d + 1) (lo x) (Go.AM.hi x) a la i m (m.length : Int) (q : Int) c = if (m.drop q).any (Z2 x) = true then some true else V2 k n a la (qa .i64 (i + 1)) c := by
 intro d
 induction d with
 | zero =>
  intro q n hq
  rw [Yb, qq (by omega : ¬ (q : Int) < (m.length : Int)), qg, qo (by omega), List.any_nil, qi (by decide)]
 | succ d ih =>
  intro q n hq
  have hg : good (m.getD q T3.dflt) := hm.mem _ (w8 _ _ _ (by omega))
  rw [show n + (d + 1) + 1 = (n + d + 1) + 1 from rfl, Yb, qw (by omega : (q : Int) < (m.length : Int)), qj, qc ⟨by omega, by omega⟩, qe, Xm k _ hg, qbG k _ hg, qd, qc rfl, qt m q T3.dflt (by omega), List.any_cons, qH q (by omega), ih (q + 1) n (by omega)]
  show (bif Z2 x (m.getD q T3.dflt) then _ else _) = _
  cases Z2 x (m.getD q T3.dflt)
  ·rw [qg, vH]
  ·rw [qj, vA, qc rfl]
set_option maxRecDepth 20000 in
theorem qpR (k : Nat) (a : List Rn) (ha : goods a) (hl : a.length ≤ 256) (c : Ch) (hc : goods c.2.2.2) (hcl : c.2.2.2.length ≤ 256) : ∀ (d i j : Nat), i + d = a.length → d * 258 < j →
  V2 k j a (a.length : Int) (i : Int) c = some (Vt (a.drop i) c.2.2.2) := by
 intro d
 induction d with
 | zero =>
  intro i j hi hj
  obtain ⟨j, rfl⟩ := qW (by omega : 0 < j)
  rw [V2, qq (by omega : ¬ (i : Int) < (a.length : Int)), qg, qo (by omega)]
  rfl
 | succ d ih =>
  intro i j hi hj
  obtain ⟨j, rfl⟩ : ∃ q, j = (q + c.2.2.2.length + 1) + 1 := ⟨j - c.2.2.2.length - 2, by omega⟩
  have hg : good (a.getD i T3.dflt) := ha.mem _ (w8 _ _ _ (by omega))
  have h8 := qpS k (a.getD i T3.dflt) a (a.length : Int) (i : Int) c c.2.2.2 hc hcl c.2.2.2.length 0 j (by omega)
  rw [V2, qw (by omega : (i : Int) < (a.length : Int)), qj, qc ⟨by omega, by omega⟩, qe, Xm k _ hg, qbG k _ hg, qd, qc rfl, qt a i T3.dflt (by omega), qfL, List.any_cons]
  refine (h8.trans ?_)
  rw [wv, qH i (by omega), ih (i + 1) j (by omega) (by omega), qfL]
  by_cases h : (c.2.2.2.any (Z2 (a.getD i T3.dflt))) = true
  ·rw [qc h, show (c.2.2.2.any fun y => Z2 (a.getD i T3.dflt) y) = true from h, vA]
  ·rw [qi h, show (c.2.2.2.any fun y => Z2 (a.getD i T3.dflt) y) = false from by simpa using h, vH]
structure Small (c : Ch) : Prop where
 l0 : 0 ≤ c.1
 w0 : 1 ≤ c.2.1
 r0 : c.1 + c.2.1 ≤ 12000
 chk : Chk c.2.2.2
theorem qgh (k : Nat) (hk : 70000 ≤ k) (a b : Ch) (ha : Small a) (hb : Small b) : qiP k a b = some (VV a b) := by
 obtain ⟨a1, a2, a3, a4⟩ := ha
 obtain ⟨b1, b2, b3, b4⟩ := hb
 unfold qiP VV
 rw [qm (i := a.1 + a.2.1) (by omega) (by omega), qm (i := b.1 + b.2.1) (by omega) (by omega)]
 by_cases h1 : a.1 + a.2.1 ≤ b.1
 ·rw [qw h1, vA, qj, qq (by omega : ¬ b.1 < a.1 + a.2.1), XT, wE]
 ·by_cases h2 : b.1 + b.2.1 ≤ a.1
  ·rw [qw h2, qS2, qj, qq (by omega : ¬ a.1 < b.1 + b.2.1), wE, wE]
  ·rw [qq h1, qq h2, Bool.or_false, qg, qw (by omega : b.1 < a.1 + a.2.1), qw (by omega : a.1 < b.1 + b.2.1), Bool.and_true, wH]
   have h1 := a4.len
   exact qpR k a.2.2.2 a4.goods h1 b b4.goods b4.len a.2.2.2.length 0 k (by omega) (by omega)
theorem qpT (k : Nat) (hk : 70000 ≤ k) (a b : Ch) (ha : Small a) (hb : Small b) : qm6 k a b = VV a b := by
 unfold qm6; rw [qgh k hk a b ha hb]; rfl
theorem qsO (k : Nat) (a m : List Rn) (ha : goods a) (i : Nat) (hi : i < a.length) (hm : goods m) (hl : m.length ≤ 256) : ∀ (d q n : Nat), q + d = m.length →
  VD k (n + d + 1) a m (i : Int) (q : Int) = if (m.drop q).any (Z2 (a.getD i T3.dflt)) = true then some true else Zq k n a m (qa .i64 ((i : Int) + 1)) := by
 intro d
 have hx : good (a.getD i T3.dflt) := ha.mem _ (w8 _ _ _ (by omega))
 induction d with
 | zero =>
  intro q n hq
  rw [VD, qq (by omega : ¬ (q : Int) < (m.length : Int)), qg, qo (by omega), List.any_nil, qi (by decide)]
 | succ d ih =>
  intro q n hq
  have hg : good (m.getD q T3.dflt) := hm.mem _ (w8 _ _ _ (by omega))
  rw [show n + (d + 1) + 1 = (n + d + 1) + 1 from rfl, VD, qw (by omega : (q : Int) < (m.length : Int)), qj, qe, qe, XC k _ hx, qb4 k _ hx, XC k _ hg, qb4 k _ hg, qc ⟨by omega, by omega, rfl⟩, qc ⟨by omega, by omega, rfl⟩, qt m q T3.dflt (by omega), List.any_cons, qH q (by omega), ih (q + 1) n (by omega)]
  show (bif Z2 (a.getD i T3.dflt) (m.getD q T3.dflt) then _ else _) = _
  cases Z2 (a.getD i T3.dflt) (m.getD q T3.dflt)
  ·rw [qg, vH]
  ·rw [qj, vA, qc rfl]
set_option maxRecDepth 20000 in
theorem qsN (k : Nat) (a m : List Rn) (ha : goods a) (hl : a.length ≤ 256) (hm : goods m) (hml : m.length ≤ 256) : ∀ (d i j : Nat), i + d = a.length → d * 258 < j →
  Zq k j a m (i : Int) = some (Vt (a.drop i) m) := by
 intro d
 induction d with
 | zero =>
  intro i j hi hj
  obtain ⟨j, rfl⟩ := qW (by omega : 0 < j)
  rw [Zq, qq (by omega : ¬ (i : Int) < (a.length : Int)), qg, qo (by omega)]
  rfl
 | succ d ih =>
  intro i j hi hj
  obtain ⟨j, rfl⟩ : ∃ q, j = (q + m.length + 1) + 1 := ⟨j - m.length - 2, by omega⟩
  have h8 := qsO k a m ha i (by omega) hm hml m.length 0 j (by omega)
  rw [Zq, qw (by omega : (i : Int) < (a.length : Int)), qj, qt a i T3.dflt (by omega), qfL, List.any_cons]
  refine (h8.trans ?_)
  rw [wv, qH i (by omega), ih (i + 1) j (by omega) (by omega), qfL]
  by_cases h : (m.any (Z2 (a.getD i T3.dflt))) = true
  ·rw [qc h, show (m.any fun y => Z2 (a.getD i T3.dflt) y) = true from h, vA]
  ·rw [qi h, show (m.any fun y => Z2 (a.getD i T3.dflt) y) = false from by simpa using h, vH]
theorem qhZ (k : Nat) (hk : 70000 ≤ k) (a b : List Rn) (ha : Chk a) (hb : Chk b) : qd6 k a b = some (Vt a b) := by
 unfold qd6
 have h1 := ha.len
 exact qsN k a b ha.goods h1 hb.goods hb.len a.length 0 k (by omega) (by omega)
theorem qsP (k : Nat) (hk : 70000 ≤ k) (a b : List Rn) (ha : Chk a) (hb : Chk b) : qie k a b = Vt a b := by
 unfold qie; rw [qhZ k hk a b ha hb]; rfl
theorem qbM (k : Nat) (hk : 2100 ≤ k) (m : List Rn) (h : Chk m) : qaJ k m = some (qp m, 0) := by
 have h1 := h.len
 unfold qaJ
 rw [QX k (by omega), WT k (by omega), qd, qc rfl, wU.2 h]
 show (if _ then _ else _) = _
 rw [Xp k m h.goods (by omega) (by omega), qbP k m h.goods (by omega) (by omega)]
 rfl
theorem qhA (k : Nat) (hk : 2100 ≤ k) (m : List Rn) (h : Chk m) : XQ k m = (qp m, 0) := by
 unfold XQ; rw [qbM k hk m h]; rfl
theorem qsM (k : Nat) (m : List Rn) (hg : goods m) (hm : m.length ≤ 1000) : ∀ (j i : Nat) (n : Int), i ≤ m.length → m.length - i < j → 0 ≤ n → n ≤ (i : Int) * 17179869184 →
  X1 k j m n (i : Int) = some (n + qp (m.drop i)) := by
 intro j
 induction j with
 | zero => intros; omega
 | succ j ih =>
  intro i n hi hj h0 h1
  rw [X1]
  by_cases h : i < m.length
  ·have hgr : good (m.getD i T3.dflt) := hg.mem _ (w8 _ _ _ (by omega))
   obtain ⟨g1, g2, g3, g4, _⟩ := hgr
   rw [qw (by omega : (i : Int) < (m.length : Int)), qj, qc ⟨by omega, by omega⟩, qe, qH i (by omega), qm (by omega) (by omega), ih (i + 1) _ (by omega) (by omega) (by omega) (by omega), qt m i T3.dflt h, qp, Int.add_assoc]
  ·rw [qq (by omega : ¬ (i : Int) < (m.length : Int)), qg, qo (by omega), qp, Int.add_zero]
theorem XA (k : Nat) (hk : 2100 ≤ k) (m : List Rn) (h : Chk m) : Y2 k m = some (qp m) := by
 have h1 := h.len
 unfold Y2
 refine (qsM k m h.goods (by omega) k 0 0 (by omega) (by omega) (by omega) (by omega)).trans ?_
 rw [wv, Int.zero_add]
theorem qb3 (k : Nat) (hk : 2100 ≤ k) (m : List Rn) (h : Chk m) : Vp k m = qp m := by
 unfold Vp; rw [XA k hk m h]; rfl
def At (p : List Ro) (id : Int) (i : Option Int) : Prop := match look p id with
 | none => i = none
 | some r => ∃ q : Nat, i = some (q : Int) ∧ q < p.length ∧ ∀ d, p.getD q d = r
theorem At.none {p : List Ro} {id : Int} {i : Option Int} (h : At p id i) (e : look p id = .none) : i = .none := by
 unfold At at h; rw [e] at h; exact h
theorem At.some {p : List Ro} {id : Int} {i : Option Int} {r : Ro} (h : At p id i) (e : look p id = .some r) : ∃ q : Nat, i = .some (q : Int) ∧ q < p.length ∧ ∀ d, p.getD q d = r := by
 unfold At at h; rw [e] at h; exact h
theorem qpm (id v : Int) (x : Int) : ∀ M : List (Int × Int), wb I x (zP I id v M) = if x = id then some v else wb I x M
 | [] => by
  show (bif (x == id) then some v else none) = _
  by_cases h : x = id
  ·rw [show (x == id) = true by simp [h], qc h]; rfl
  ·rw [show (x == id) = false by simp [h], qi h]; rfl
 | p :: t => by
  unfold zP
  by_cases h : id = p.1
  ·rw [show Vc I id p.1 = true from by show (id == p.1) = true; simp [h], qj]
   show (bif (x == id) then some v else wb I x t) = _
   by_cases h2 : x = id
   ·simp [h2]
   ·rw [qi h2, show (x == id) = false by simp [h2], qg, wb, show Vc I x p.1 = false from by show (x == p.1) = false; rw [← h]; simp [h2], qg]
  ·rw [show Vc I id p.1 = false from by show (id == p.1) = false; simp [h], qg, wb, qpm id v x t]
   show (bif (x == p.1) then some p.2 else _) = if _ then _ else (bif (x == p.1) then some p.2 else _)
   by_cases h2 : x = id
   ·rw [qc h2, qc h2, show (x == p.1) = false by rw [h2]; simp [h], qg]
   ·rw [qi h2, qi h2]
def v8 (M : List (Int × Int)) (p : List Ro) : Prop := ∀ id, At p id (wb I id M)
theorem qCX : v8 [] [] := fun id => by unfold At look; rfl
theorem qCY {M : List (Int × Int)} {p : List Ro} (h : v8 M p) (r : Ro) (hr : (look p r.1).isSome = true) : v8 M (p ++ [r]) := fun id => by
 have h1 := h id
 unfold At at *
 rw [QZ]
 cases e : look p id with
 | some q =>
  rw [e] at h1
  obtain ⟨i, h2, h3, h4⟩ := h1
  exact ⟨i, h2, by rw [qT]; omega, fun d => by rw [Ym _ _ _ _ h3]; exact h4 d⟩
 | none =>
  rw [e] at h1
  have : r.1 ≠ id := fun e2 => by rw [e2, e] at hr; cases hr
  rw [Option.none_or, show look [r] id = none by unfold look; simp [this]]
  exact h1
theorem qCW {M : List (Int × Int)} {p : List Ro} (h : v8 M p) (r : Ro) (hr : look p r.1 = none) : v8 (zP I r.1 (p.length : Int) M) (p ++ [r]) := fun id => by
 have h1 := h id
 rw [qpm]
 unfold At at *
 rw [QZ]
 by_cases hi : id = r.1
 ·rw [qc hi, hi, hr, Option.none_or, show look [r] r.1 = some r by unfold look; simp]
  exact ⟨p.length, rfl, by simp, fun d => by simp⟩
 ·rw [qi hi]
  cases e : look p id with
  | some q =>
   rw [e] at h1
   obtain ⟨i, h2, h3, h4⟩ := h1
   exact ⟨i, h2, by rw [qT]; omega, fun d => by rw [Ym _ _ _ _ h3]; exact h4 d⟩
  | none =>
   rw [e] at h1
   rw [Option.none_or, show look [r] id = none by unfold look; simp [Ne.symm hi]]
   exact h1
theorem qp8 (k : Nat) (p t : List Ro) (id : Int) (hp : p.length ≤ 100000) : ∀ (d i j : Nat), i + d = p.length → d < j → look (p.take i) id = none →
  ∃ o : Option Int, Zp k j (p ++ t) (p.length : Int) id (i : Int) = some (o.getD (-1)) ∧ At p id o := by
 intro d
 induction d with
 | zero =>
  intro i j hi hj hn
  obtain ⟨j, rfl⟩ := qW (by omega : 0 < j)
  rw [Zp, qq (by omega : ¬ (i : Int) < (p.length : Int)), qg]
  rw [zj (by omega)] at hn
  exact ⟨none, rfl, by unfold At; rw [hn]⟩
 | succ d ih =>
  intro i j hi hj hn
  obtain ⟨j, rfl⟩ := qW (by omega : 0 < j)
  have hl : (p ++ t).length = p.length + t.length := qT
  rw [Zp, qw (by omega : (i : Int) < (p.length : Int)), qj, qc ⟨by omega, by omega⟩, qe, Ym _ _ _ _ (by omega)]
  have ht := zz p i T5.dflt (by omega)
  by_cases h : (p.getD i T5.dflt).1 = id
  ·rw [show ((p.getD i T5.dflt).fst == id) = true from beq_iff_eq.2 h, qj]
   refine ⟨some (i : Int), rfl, ?_⟩
   have e : look p id = some (p.getD i T5.dflt) := by
    have e2 : look (p.drop i) id = some (p.getD i T5.dflt) := by
     rw [qt p i T5.dflt (by omega)]
     unfold look
     rw [List.find?_cons_of_pos (by exact beq_iff_eq.2 h)]
    have e3 := QZ (p.take i) (p.drop i) id
    rw [qlu, hn, Option.none_or, e2] at e3
    exact e3
   unfold At
   rw [e]
   exact ⟨i, rfl, by omega, fun d => qEW _ _ _ _ (by omega)⟩
  ·rw [show ((p.getD i T5.dflt).fst == id) = false from beq_false_of_ne h, qg, qH i (by omega)]
   refine ih (i + 1) j (by omega) (by omega) ?_
   rw [ht, QZ, hn, Option.none_or]
   unfold look
   simp only [List.find?_cons, List.find?_nil]
   rw [show ((p.getD i T5.dflt).1 == id) = false from beq_false_of_ne h]
theorem qax (k : Nat) (p t : List Ro) (id : Int) (hp : p.length ≤ 100000) (hk : p.length < k) : ∃ o : Option Int, Vf k (p ++ t) (p.length : Int) id = some (o.getD (-1)) ∧ q8 k (p ++ t) (p.length : Int) id = o.getD (-1) ∧ At p id o := by
 obtain ⟨o, h1, h2⟩ := qp8 k p t id hp p.length 0 k (by omega) (by omega) (by unfold look; rfl)
 exact ⟨o, h1, by unfold q8 Vf; rw [show Zp k k (p ++ t) (p.length : Int) id 0 = _ from h1]; rfl, h2⟩
def Wl (p : List Ro) : Prop := ∀ r ∈ p, Small r.2.2
theorem Wl.size {p : List Ro} {W L : Int} (h : Wl p) (hW : 0 ≤ W ∧ W ≤ 12000) (id : Int) : 0 ≤ (wh p W L id).1 ∧ (wh p W L id).1 ≤ 12000 := by
 unfold wh
 by_cases h0 : id = 0
 ·rw [qc h0]; exact hW
 ·rw [qi h0]
  cases e : look p id with
  | none => exact ⟨by decide, by decide⟩
  | some q =>
   obtain ⟨a, b, c, _⟩ := h q (zy e).1
   exact ⟨by show 0 ≤ q.2.2.2.1; omega, by show q.2.2.2.1 ≤ _; omega⟩
theorem Wl.snoc {p : List Ro} {W L : Int} {r : Ro} (h : Wl p) (hW : 0 ≤ W ∧ W ≤ 12000) (f : vK p W L r = 0) : Wl (p ++ [r]) := by
 obtain ⟨_, _, _, c⟩ := qfA.1 f
 obtain ⟨s1, s2⟩ := h.size (L := L) hW r.2.1
 intro q hq
 rcases zX.1 hq with hq | hq
 ·exact h q hq
 ·rw [List.mem_singleton] at hq
  subst hq
  have := c.right
  exact ⟨c.left, c.width, by omega, c.chk⟩
theorem qaM (k : Nat) (hk : 2100 ≤ k) (W L : Int) (p t : List Ro) (M : List (Int × Int)) (id : Int) (hp : Wl p) (hM : v8 M p) (h : id = 0 ∨ ∃ q, look p id = some q) : Yy k W L (p ++ t) M id = some (wh p W L id) := by
 unfold Yy wh
 by_cases h0 : id = 0
 ·rw [qc h0, show (id == 0) = true from beq_iff_eq.2 h0, qj]
 ·rw [qi h0, show (id == 0) = false from beq_false_of_ne h0, qg]
  rcases h with h | ⟨q, h⟩
  ·exact absurd h h0
  ·obtain ⟨i, e1, e2, e3⟩ := (hM id).some h
   have hl : (p ++ t).length = p.length + t.length := qT
   have hs := hp q (zy h).1
   have hi : (i : Int) < ((p ++ t).length : Int) := by omega
   rw [e1, qMF, qc ⟨by omega, hi⟩, qe, Ym _ _ _ _ e2, e3, h]
   show (if (qaJ k q.2.2.2.2.2).isSome = true then some (q.2.2.2.1, (XQ k q.2.2.2.2.2).1) else none) = _
   rw [qbM k hk _ hs.chk, qhA k hk _ hs.chk]
   rfl
theorem qfx (k : Nat) (hk : 2100 ≤ k) (W L : Int) (p t : List Ro) (M : List (Int × Int)) (id : Int) (hp : Wl p) (hM : v8 M p) (h : id = 0 ∨ ∃ q, look p id = some q) : Q7 k W L (p ++ t) M id = wh p W L id := by
 unfold Q7; rw [qaM k hk W L p t M id hp hM h]; rfl
theorem qtT (k : Nat) (W L : Int) (l : List Ro) (M : List (Int × Int)) (r : Ro) (n : Int) (m : List Rn) (hm : goods m) (hl : m.length ≤ 256) : ∀ (d i j : Nat), i + d = m.length → d < j →
  Ww k W L l M r j n m (m.length : Int) (i : Int) = some (if fitsIn n (m.drop i) then 0 else 21) := by
 intro d
 induction d with
 | zero =>
  intro i j hi hj
  obtain ⟨j, rfl⟩ := qW (by omega : 0 < j)
  rw [Ww, qq (by omega : ¬ (i : Int) < (m.length : Int)), qg, qo (by omega), qc (by trivial)]
 | succ d ih =>
  intro i j hi hj
  obtain ⟨j, rfl⟩ := qW (by omega : 0 < j)
  have hg : good (m.getD i T3.dflt) := hm.mem _ (w8 _ _ _ (by omega))
  rw [Ww, qw (by omega : (i : Int) < (m.length : Int)), qj, qc ⟨by omega, by omega⟩, qe, Xm k _ hg, qbG k _ hg, qd, qc rfl, qt m i T3.dflt (by omega), qH i (by omega)]
  show (bif decide (Go.AM.hi (m.getD i T3.dflt) ≥ n) then _ else _) = _
  by_cases h : Go.AM.hi (m.getD i T3.dflt) ≥ n
  ·rw [qw h, qj, qi (fun e : fitsIn n (m.getD i T3.dflt :: m.drop (i + 1)) => by have := e.1; omega)]
  ·rw [qq h, qg, ih (i + 1) j (by omega) (by omega)]
   by_cases h2 : fitsIn n (m.drop (i + 1))
   ·rw [qc h2, qc (show fitsIn n (m.getD i T3.dflt :: m.drop (i + 1)) from ⟨by omega, h2⟩)]
   ·rw [qi h2, qi (fun e : fitsIn n (m.getD i T3.dflt :: m.drop (i + 1)) => h2 e.2)]
theorem qrM (c : Ch) (w : Int) (hw : 0 ≤ w ∧ w ≤ 12000) : (decide (c.1 < (0 : Int)) || decide (c.2.1 < (1 : Int)) || decide (c.1 > w) || decide (c.2.1 > qa .i64 (w - c.1))) = decide (c.1 < 0 ∨ c.2.1 < 1 ∨ c.1 > w ∨ c.2.1 > w - c.1) := by
 by_cases h1 : c.1 < 0
 ·rw [qw h1, vA, vA, vA, qw (Or.inl h1)]
 ·by_cases h2 : c.2.1 < 1
  ·rw [qw h2, qS2, vA, vA, qw (Or.inr (Or.inl h2))]
  ·by_cases h3 : c.1 > w
   ·rw [qw h3, qS2, vA, qw (Or.inr (Or.inr (Or.inl h3)))]
   ·rw [qq h1, qq h2, qq h3, qm (by omega) (by omega), Bool.or_false, Bool.or_false, vH]
    by_cases h4 : c.2.1 > w - c.1
    ·rw [qw h4, qw (Or.inr (Or.inr (Or.inr h4)))]
    ·rw [qq h4, qq (by omega)]
theorem qgg (k : Nat) (hk : 2100 ≤ k) (W L : Int) (l : List Ro) (M : List (Int × Int)) (r : Ro) (c : Ch) (w n : Int) (hw : 0 ≤ w ∧ w ≤ 12000) :
  (bif (decide (c.1 < (0 : Int)) || decide (c.2.1 < (1 : Int)) || decide (c.1 > w) || decide (c.2.1 > qa .i64 (w - c.1))) then some 20
   else if ((ZT k c.2.2.2).isSome = true) then
    bif (vP k c.2.2.2 != (0 : Int)) then some (vP k c.2.2.2)
    else bif ((↑ (qb c.2.2.2) : Int) == (0 : Int)) then some 10
    else if ((qcB k c.2.2.2).isSome = true) then
     bif (!qf7 k c.2.2.2) then some 12
     else Ww k W L l M r k n c.2.2.2 ((↑ (qb c.2.2.2) : Int)) 0
    else none
   else none) = some (qkl c w n) := by
 unfold qkl
 rw [qrM c w hw, QX k (by omega), WT k (by omega), qd, qc rfl, qhB k hk, qr0 k hk, qd, qc rfl]
 by_cases h1 : c.1 < 0 ∨ c.2.1 < 1 ∨ c.1 > w ∨ c.2.1 > w - c.1
 ·rw [qw h1, qj, qc h1]
 ·rw [qq h1, qg, qi h1]
  by_cases h2 : chk c.2.2.2 = 0
  ·have hc := wU.1 h2
   have hl := hc.len
   rw [show (chk c.2.2.2 != 0) = false by simp [h2], qg, qi (fun h : chk c.2.2.2 ≠ 0 => h h2)]
   by_cases h3 : c.2.2.2 = []
   ·rw [h3, qc rfl]; rfl
   ·rw [qi h3, show (((qb c.2.2.2 : Nat) : Int) == 0) = false from beq_false_of_ne (fun e => h3 (List.length_eq_zero_iff.1 (by omega))), qg]
    cases h4 : vu c.2.2.2
    ·rfl
    ·rw [ve, qg, qi (by decide)]
     refine (qtT k W L l M r n c.2.2.2 hc.goods hl c.2.2.2.length 0 k (by omega) (by omega)).trans ?_
     rw [wv]
  ·rw [show (chk c.2.2.2 != 0) = true by simp [h2], qj, qc h2]
theorem qmh (k : Nat) (hk : 2100 ≤ k) (W L : Int) (hW : 0 ≤ W ∧ W ≤ 12000) (p t : List Ro) (M : List (Int × Int)) (r : Ro) (hp : Wl p) (hM : v8 M p) : qiQ k W L (p ++ t) M r = some (vK p W L r) := by
 unfold qiQ vK
 by_cases h1 : r.1 < 1 ∨ r.1 > 1000000
 ·rw [qc h1, show (decide (r.1 < 1) || decide (r.1 > 1000000)) = true by simpa using h1, qj]
 ·rw [qi h1, show (decide (r.1 < 1) || decide (r.1 > 1000000)) = false by simp; omega, qg]
  have hs := hp.size (L := L) hW r.2.1
  by_cases h2 : r.2.1 = 0
  ·rw [show (r.2.1 != 0) = false by simp [h2], qg, qc rfl, qi (fun h : r.2.1 ≠ 0 ∧ look p r.2.1 = none => h.1 h2), qaM k hk W L p t M r.2.1 hp hM (.inl h2), qfx k hk W L p t M r.2.1 hp hM (.inl h2), qd, qc rfl]
   exact qgg k hk W L (p ++ t) M r r.2.2 _ _ hs
  ·have hkn : WF k W L (p ++ t) M r.2.1 = (wb I r.2.1 M).isSome := by unfold WF Xh; rfl
   rw [show (r.2.1 != 0) = true by simp [h2], qj, qc ⟨rfl, rfl⟩, hkn, wH]
   cases e : look p r.2.1 with
   | none => rw [(hM r.2.1).none e, qc (show r.2.1 ≠ 0 ∧ (none : Option Ro) = none from ⟨h2, rfl⟩)]; rfl
   | some q =>
    obtain ⟨i, e1, e2, e3⟩ := (hM r.2.1).some e
    rw [e1, qi (show ¬ (r.2.1 ≠ 0 ∧ some q = none) from fun h => nomatch h.2), qd, ve, qg, qaM k hk W L p t M r.2.1 hp hM (.inr ⟨q, e⟩), qfx k hk W L p t M r.2.1 hp hM (.inr ⟨q, e⟩), qd, qc rfl]
    exact qgg k hk W L (p ++ t) M r r.2.2 _ _ hs
theorem qxn (k : Nat) (hk : 2100 ≤ k) (W L : Int) (hW : 0 ≤ W ∧ W ≤ 12000) (p t : List Ro) (M : List (Int × Int)) (r : Ro) (hp : Wl p) (hM : v8 M p) : qf5 k W L (p ++ t) M r = vK p W L r := by
 unfold qf5; rw [qmh k hk W L hW p t M r hp hM]; rfl
theorem qtV (k : Nat) (hk : 70000 ≤ k) (l : List Ro) (n i W L : Int) (M : List (Int × Int)) (r : Ro) (hr : Small r.2.2) (p : List Ro) (hp : Wl p) (hpl : p.length ≤ 512) : ∀ (d q m : Nat), q + d = p.length →
  ZA k (m + d + 1) l l n i p (p.length : Int) (q : Int) W L l M r = if QA (p.drop q) r = true then some (.inl 12) else Zz k m l l n (qa .i64 (i + 1)) W L l M := by
 intro d
 induction d with
 | zero =>
  intro q m hq
  rw [ZA, qq (by omega : ¬ (q : Int) < (p.length : Int)), qg, qo (by omega), qi (by unfold QA; rw [List.any_nil]; decide)]
 | succ d ih =>
  intro q m hq
  have hs : Small (p.getD q T5.dflt).2.2 := hp _ (w8 _ _ _ (by omega))
  have hc : QA (p.drop q) r = ((r.2.1 == (p.getD q T5.dflt).2.1) && VV r.2.2 (p.getD q T5.dflt).2.2 || QA (p.drop (q + 1)) r) := by
   unfold QA; rw [qt p q T5.dflt (by omega), List.any_cons]
  rw [show m + (d + 1) + 1 = (m + d + 1) + 1 from rfl, ZA, qw (by omega : (q : Int) < (p.length : Int)), qj, qc ⟨by omega, by omega⟩, qe, qH q (by omega), ih (q + 1) m (by omega), hc]
  cases e : (r.2.1 == (p.getD q T5.dflt).2.1)
  ·rw [qg, qc rfl, wE, vH]
  ·rw [qj, wH, qpT k hk _ _ hr hs, qc ⟨rfl, by rw [qgh k hk _ _ hr hs]; rfl⟩, wH]
   cases VV r.2.2 (p.getD q T5.dflt).2.2
   ·rw [qg, vH]
   ·rfl
set_option maxRecDepth 20000 in
theorem qtU (k : Nat) (hk : 70000 ≤ k) (l : List Ro) (W L : Int) (M : List (Int × Int)) (hl : Wl l) (hll : l.length ≤ 512) : ∀ (d i j : Nat), i + d = l.length → d * 514 < j →
  Zz k j l l (l.length : Int) (i : Int) W L l M = if zf (l.take i) (l.drop i) = true then some (.inl 12) else some (.inr (0, W, L, l, M)) := by
 intro d
 induction d with
 | zero =>
  intro i j hi hj
  obtain ⟨j, rfl⟩ := qW (by omega : 0 < j)
  rw [Zz, qq (by omega : ¬ (i : Int) < (l.length : Int)), qg, qo (by omega), zf, qi (by decide)]
 | succ d ih =>
  intro i j hi hj
  obtain ⟨j, rfl⟩ : ∃ q, j = (q + (l.take i).length + 1) + 1 := ⟨j - (l.take i).length - 2, by rw [WZ]; omega⟩
  rw [WZ] at hj
  have hs : Small (l.getD i T5.dflt).2.2 := hl _ (w8 _ _ _ (by omega))
  have h23 := qtV k hk l (l.length : Int) (i : Int) W L M (l.getD i T5.dflt) hs (l.take i) (fun r hr => hl r (List.mem_of_mem_take hr)) (by rw [WZ]; omega) (l.take i).length 0 j (by omega)
  rw [Zz, qw (by omega : (i : Int) < (l.length : Int)), qj, qc ⟨by omega, by omega⟩, qc ⟨by omega, by omega, by omega⟩, qe, Int.toNat_zero, wv, Nat.sub_zero]
  refine h23.trans ?_
  rw [wv, qH i (by omega), ih (i + 1) j (by omega) (by omega), qt l i T5.dflt (by omega), zf, zz l i T5.dflt (by omega)]
  cases QA (l.take i) (l.getD i T5.dflt)
  ·rw [qi (by decide), vH]
  ·rfl
theorem qxo (k : Nat) (hk : 300000 ≤ k) (l : List Ro) (W L : Int) (hW : 0 ≤ W ∧ W ≤ 12000) (hll : l.length ≤ 512) : ∀ (d i j : Nat) (dup : Bool) (M : List (Int × Int)), i + d = l.length → d + 1 + 263168 < j → v8 M (l.take i) → Wl (l.take i) →
  ∃ M', (w7 W L (l.take i) (l.drop i) = 0 → v8 M' l ∧ Wl l) ∧ Qf k j l dup l (l.length : Int) (i : Int) W L l M =
   if w7 W L (l.take i) (l.drop i) ≠ 0 then some (.inl (w7 W L (l.take i) (l.drop i))) else if (dup || vJ (l.take i) (l.drop i)) = true then some (.inl 6) else if zf [] l = true then some (.inl 12) else some (.inr (0, W, L, l, M')) := by
 intro d
 induction d with
 | zero =>
  intro i j dup M hi hj hM hw
  obtain ⟨j, rfl⟩ := qW (by omega : 0 < j)
  have h20 := qtU k (by omega) l W L M (by rw [zj (by omega)] at hw; exact hw) hll l.length 0 j (by omega) (by omega)
  rw [zj (by omega : l.length ≤ i)] at hM hw
  refine ⟨M, fun _ => ⟨hM, hw⟩, ?_⟩
  rw [Qf, qq (by omega : ¬ (i : Int) < (l.length : Int)), qg, qo (by omega), w7, qi (fun h => h rfl), vJ, Bool.or_false]
  cases dup
  ·rw [qg, qi (by decide)]
   exact h20
  ·rfl
 | succ d ih =>
  intro i j dup M hi hj hM hw
  obtain ⟨j, rfl⟩ := qW (by omega : 0 < j)
  have hf := qmh k (by omega) W L hW (l.take i) (l.drop i) M (l.getD i T5.dflt) hw hM
  have hv := qxn k (by omega) W L hW (l.take i) (l.drop i) M (l.getD i T5.dflt) hw hM
  rw [qlu] at hf hv
  have hkn : WF k W L l M (l.getD i T5.dflt).1 = (wb I (l.getD i T5.dflt).1 M).isSome := by unfold WF Xh; rfl
  have ht := zz l i T5.dflt (by omega)
  by_cases h1 : vK (l.take i) W L (l.getD i T5.dflt) = 0
  ·have hw2 : Wl (l.take (i + 1)) := by rw [ht]; exact hw.snoc hW h1
   cases e : look (l.take i) (l.getD i T5.dflt).1 with
   | none =>
    have hM2 : v8 (zP I (l.getD i T5.dflt).1 (i : Int) M) (l.take (i + 1)) := by
     have := qCW hM (l.getD i T5.dflt) e
     rw [ht]
     rw [WZ, show min i l.length = i by omega] at this
     exact this
    obtain ⟨M', m1, m2⟩ := ih (i + 1) j dup _ (by omega) (by omega) hM2 hw2
    rw [ht] at m1 m2
    rw [qt l i T5.dflt (by omega), w7, qi (fun h => h h1), vJ, e]
    refine ⟨M', m1, ?_⟩
    rw [Qf, qw (by omega : (i : Int) < (l.length : Int)), qj, qc ⟨by omega, by omega⟩, qe, hf, hv, qd, qc rfl, h1]
    show (bif WF k W L l M (l.getD i T5.dflt).1 then _ else _) = _
    rw [hkn, (hM _).none e, qH i (by omega)]
    exact m2
   | some q =>
    have hM2 : v8 M (l.take (i + 1)) := by
     have := qCY hM (l.getD i T5.dflt) (by rw [e]; rfl)
     rw [ht]
     exact this
    obtain ⟨M', m1, m2⟩ := ih (i + 1) j true _ (by omega) (by omega) hM2 hw2
    rw [ht] at m1 m2
    rw [qt l i T5.dflt (by omega), w7, qi (fun h => h h1), vJ, e]
    refine ⟨M', m1, ?_⟩
    obtain ⟨a, b, _, _⟩ := (hM _).some e
    rw [Qf, qw (by omega : (i : Int) < (l.length : Int)), qj, qc ⟨by omega, by omega⟩, qe, hf, hv, qd, qc rfl, h1]
    show (bif WF k W L l M (l.getD i T5.dflt).1 then _ else _) = _
    rw [hkn, b, qH i (by omega), qd, qd, vA, qS2]
    rw [vA] at m2
    exact m2
  ·rw [qt l i T5.dflt (by omega), w7, qc h1]
   refine ⟨M, fun h => absurd h h1, ?_⟩
   rw [Qf, qw (by omega : (i : Int) < (l.length : Int)), qj, qc ⟨by omega, by omega⟩, qe, hf, hv, qd, qc rfl, show (vK (l.take i) W L (l.getD i T5.dflt) != 0) = true from bne_iff_ne.2 h1, qj, qc h1]
theorem qES (k : Nat) (hk : 300000 ≤ k) (l : List Ro) (web : Int × Int) : (wY l web.1 web.2 ≠ 0 → W4 k l web = some (.inl (wY l web.1 web.2))) ∧ (wY l web.1 web.2 = 0 → ∃ M, v8 M l ∧ Wl l ∧ W4 k l web = some (.inr (0, web.1, web.2, l, M))) := by
 obtain ⟨W, L⟩ := web
 show (wY l W L ≠ 0 → W4 k l (W, L) = some (.inl (wY l W L))) ∧ (wY l W L = 0 → ∃ M, v8 M l ∧ Wl l ∧ W4 k l (W, L) = some (.inr (0, W, L, l, M)))
 unfold W4 wY
 show ((if _ then _ else _ : Int) ≠ 0 → (bif decide (W < (1 : Int)) || decide (W > (12000 : Int)) || decide (L < (0 : Int)) || decide (L > (17179869184 : Int)) then some (.inl 1) else bif _ then _ else Qf k k l false l (l.length : Int) 0 W L l []) = _) ∧ (_ → ∃ M, v8 M l ∧ Wl l ∧ (bif decide (W < (1 : Int)) || decide (W > (12000 : Int)) || decide (L < (0 : Int)) || decide (L > (17179869184 : Int)) then some (.inl 1) else bif _ then _ else Qf k k l false l (l.length : Int) 0 W L l []) = _)
 by_cases h1 : W < 1 ∨ W > 12000 ∨ L < 0 ∨ L > 17179869184
 ·rw [qc h1, show (decide (W < (1 : Int)) || decide (W > (12000 : Int)) || decide (L < (0 : Int)) || decide (L > (17179869184 : Int))) = true by simp; omega]
  exact ⟨fun _ => rfl, fun h => absurd h (by decide)⟩
 ·rw [qi h1, show (decide (W < (1 : Int)) || decide (W > (12000 : Int)) || decide (L < (0 : Int)) || decide (L > (17179869184 : Int))) = false by simp; omega, qg]
  by_cases h2 : l.length > 512
  ·rw [qc h2, qw (by omega : (l.length : Int) > 512)]
   exact ⟨fun _ => rfl, fun h => absurd h (by decide)⟩
  ·rw [qi h2, qq (by omega : ¬ (l.length : Int) > 512), qg]
   obtain ⟨M, m1, m2⟩ := qxo k hk l W L (by omega) (by omega) l.length 0 k false [] (by omega) (by omega) (by rw [List.take_zero]; exact qCX) (fun r hr => by simp at hr)
   rw [List.take_zero, wv, vH] at m2
   rw [List.take_zero, wv] at m1
   rw [show Qf k k l false l (l.length : Int) 0 W L l [] = _ from m2]
   by_cases h3 : w7 W L [] l = 0
   ·rw [qi (fun h : w7 W L [] l ≠ 0 => h h3), qi (fun h : w7 W L [] l ≠ 0 => h h3)]
    have ff : ¬ (false = true) := Bool.false_ne_true
    have tt : true = true := rfl
    cases vJ [] l
    ·rw [qi ff, qi ff]
     cases zf [] l
     ·rw [qi ff, qi ff]
      exact ⟨fun h => absurd rfl h, fun _ => ⟨M, (m1 h3).1, (m1 h3).2, rfl⟩⟩
     ·rw [qc tt, qc tt]
      exact ⟨fun _ => rfl, fun h => absurd h (by decide)⟩
    ·rw [qc tt, qc tt]
     exact ⟨fun _ => rfl, fun h => absurd h (by decide)⟩
   ·rw [qc h3, qc h3]
    exact ⟨fun _ => rfl, fun h => absurd h h3⟩
end Go.AM
namespace Go.AM
open Go Go.Proofs
noncomputable section
abbrev qy2 (a : List T5.T) (b : Int) (d : Int) (e : Int) (r : Int) : Prop := CC Tryz.prog 86 [ro T5 a, ri b, ri d, ri e] [] (ri r) (nb r)
def qxY := fun y0 y1 y2 => (⟨qM 109 [(3, ri y0), (11, .ptr 1000000 0 0), (13, ri y1)], [(1000000, 0, .var 45 (qB (qr T4 y2)))]⟩ : St)
def QB (k : Nat) : Nat → Int → Int → T4.T → Option Int
 | 0, _, _, _ => none
 | j + 1, y0, y1, y2 =>
 bif y1 < (↑ (qb y2.2.2.2) : Int) then
 if (0 ≤ y1) ∧ (y1 < (↑ (qb y2.2.2.2) : Int)) ∧ ((Y4 k (qI y2.2.2.2 y1.toNat T3.dflt)).isSome) then
 bif (XL k (qI y2.2.2.2 y1.toNat T3.dflt)).2 ≥ y0 then
 some 21
 else
 QB k j y0 (qa .i64 (y1 + 1)) y2
 else none
 else
 some 0
def qd7 (k : Nat) (a : List T5.T) (b : Int) (d : Int) (e : Int) : Option Int :=
 if (0 ≤ b) ∧ (b < a.length) then
 bif (decide ((a.getD b.toNat T5.dflt).1 < (1 : Int)) || decide ((a.getD b.toNat T5.dflt).1 > (1000000 : Int))) then
 some 1
 else
 bif ((a.getD b.toNat T5.dflt).2.1 != (0 : Int)) then
 if ((Vf k a b (a.getD b.toNat T5.dflt).2.1).isSome) then
 bif q8 k a b (a.getD b.toNat T5.dflt).2.1 < (0 : Int) then
 some 7
 else
 if ((0 : Int) ≤ q8 k a b (a.getD b.toNat T5.dflt).2.1) ∧ (q8 k a b (a.getD b.toNat T5.dflt).2.1 < (↑a.length : Int)) then
 if ((0 : Int) ≤ q8 k a b (a.getD b.toNat T5.dflt).2.1) ∧ (q8 k a b (a.getD b.toNat T5.dflt).2.1 < (↑a.length : Int)) ∧ ((Y2 k (a.getD (ql (q8 k a b (a.getD b.toNat T5.dflt).2.1)) T5.dflt).2.2.2.2.2).isSome) then
 bif (decide ((a.getD b.toNat T5.dflt).2.2.1 < (0 : Int)) || decide ((a.getD b.toNat T5.dflt).2.2.2.1 < (1 : Int)) || decide ((a.getD b.toNat T5.dflt).2.2.1 > (a.getD (ql (q8 k a b (a.getD b.toNat T5.dflt).2.1)) T5.dflt).2.2.2.1) || decide ((a.getD b.toNat T5.dflt).2.2.2.1 > qa .i64 ((a.getD (ql (q8 k a b (a.getD b.toNat T5.dflt).2.1)) T5.dflt).2.2.2.1 - (a.getD b.toNat T5.dflt).2.2.1))) then
 some 20
 else
 if ((ZW k (a.getD b.toNat T5.dflt).2.2.2.2.2).isSome) then
 bif (Qb k (a.getD b.toNat T5.dflt).2.2.2.2.2 != (0 : Int)) then
 some (Qb k (a.getD b.toNat T5.dflt).2.2.2.2.2)
 else
 bif ((↑ (qb (a.getD b.toNat T5.dflt).2.2.2.2.2) : Int) == (0 : Int)) then
 some 10
 else
 if ((YZ k (a.getD b.toNat T5.dflt).2.2.2.2.2).isSome) then
 bif (!qb8 k (a.getD b.toNat T5.dflt).2.2.2.2.2) then
 some 12
 else
 QB k k (Vp k (a.getD (ql (q8 k a b (a.getD b.toNat T5.dflt).2.1)) T5.dflt).2.2.2.2.2) 0 ((a.getD b.toNat T5.dflt).2.2)
 else none
 else none
 else none
 else none
 else none
 else
 bif (decide ((a.getD b.toNat T5.dflt).2.2.1 < (0 : Int)) || decide ((a.getD b.toNat T5.dflt).2.2.2.1 < (1 : Int)) || decide ((a.getD b.toNat T5.dflt).2.2.1 > d) || decide ((a.getD b.toNat T5.dflt).2.2.2.1 > qa .i64 (d - (a.getD b.toNat T5.dflt).2.2.1))) then
 some 20
 else
 if ((ZW k (a.getD b.toNat T5.dflt).2.2.2.2.2).isSome) then
 bif (Qb k (a.getD b.toNat T5.dflt).2.2.2.2.2 != (0 : Int)) then
 some (Qb k (a.getD b.toNat T5.dflt).2.2.2.2.2)
 else
 bif ((↑ (qb (a.getD b.toNat T5.dflt).2.2.2.2.2) : Int) == (0 : Int)) then
 some 10
 else
 if ((YZ k (a.getD b.toNat T5.dflt).2.2.2.2.2).isSome) then
 bif (!qb8 k (a.getD b.toNat T5.dflt).2.2.2.2.2) then
 some 12
 else
 QB k k e 0 ((a.getD b.toNat T5.dflt).2.2)
 else none
 else none
 else none
def qeP := fun k a b d e => (qd7 k a b d e).getD 0
def qJ2 (k : Nat) : Ke := (86, mo 4, fun
 | [.r (.ro g f), .r (.v (.int .i64 b)), .r (.v (.int .i64 d)), .r (.v (.int .i64 e))], [] => (qC g T5 f).bind fun a => some (.one (ri (qeP k a b d e), []))
 | _, _ => none)
def qzS (k : Nat) : Calld := qA [qnX k, qji k, qey k, qJQ k, qnY k]
def quQ : List (Nat × List Cmd) := [(21, [.autoB [3, 11, 13] false []])]
abbrev qMq := EP Tryz.f86 0 ri nb
theorem qnE (k) : ∀ j, (∀ y0 y1 y2, qMq 21 (qxY y0 y1 y2) (QB k j y0 y1 y2))
 | 0 => by intros; exact e0
 | j + 1 => by
  have ih := @qnE k j
  ·intro y0 y1 y2 r h
   rw [QB] at h
   exact go (qzS k) [] quQ [.autoB [8] true []] (gS h (fun h => gN h (fun q => qf q.1 (qf q.2.1 (qf (qnx q.2.2) qP))) fun h => qu h fun h => gC h 21 (ih _ _ _ _)) fun h => gL h)
theorem qK1 (k a b d e r) (h : qd7 k a b d e = some r): qy2 a b d e r := qO Tryz.f86 (go (qzS k) [] quQ [.autoB [8] true []] (qU h fun h => qu h fun h => gS h (fun h => qv h qiw fun h => qu h fun h => qU h fun h => gN h (fun q => qf q.1 (qf q.2.1 (qf (qnw q.2.2) qP))) fun h => qu h fun h => qv h qbm fun h => qu h fun h => qu h fun h => qv h qul fun h => qu h fun h => gC h 21 ((qnE k k) _ _ _ _)) fun h => qu h fun h => qv h qbm fun h => qu h fun h => qu h fun h => qv h qul fun h => qu h fun h => gC h 21 ((qnE k k) _ _ _ _)))
theorem qI3 {k a b d e} (h : (qd7 k a b d e).isSome): qy2 a b d e (qeP k a b d e) := qJ h (qK1 k a b d e)
abbrev qyW (a : List T5.T) (b : Int) (d : Int) (r : Int) : Prop := CC Tryz.prog 42 [ro T5 a, ri b, ri d] [] (ri r) (nb r)
def qDy := fun y0 y1 y2 y3 => (⟨qM 119 [(0, ro T5 y0), (1, ri y1), (2, ri y2), (7, ri y3)], []⟩ : St)
def qxV := fun y0 y1 => (⟨qM 119 [(0, ro T5 y0), (9, ri y1)], []⟩ : St)
def qxW := fun y0 y1 => (⟨qM 119 [(0, ro T5 y0), (10, ri y1)], []⟩ : St)
def qxX := fun y0 y1 y2 => (⟨qM 119 [(0, ro T5 y0), (10, ri y1), (11, ri y2)], []⟩ : St)
mutual
def Zo (k : Nat) : Nat → List T5.T → Int → Int → Int → Option Int
 | 0, _, _, _, _ => none
 | j + 1, y0, y1, y2, y3 =>
 bif y3 < y0.length then
 if ((qd7 k y0 y3 y1 y2).isSome) then
 bif (qeP k y0 y3 y1 y2 != 0) then
 some (qeP k y0 y3 y1 y2)
 else
 Zo k j y0 y1 y2 (qa .i64 (y3 + 1))
 else none
 else
 Zn k j y0 0
def Zn (k : Nat) : Nat → List T5.T → Int → Option Int
 | 0, _, _ => none
 | j + 1, y0, y1 =>
 bif y1 < y0.length then
 if (0 ≤ y1) ∧ (y1 < y0.length) ∧ ((Vf k y0 y1 (y0.getD y1.toNat T5.dflt).1).isSome) then
 bif q8 k y0 y1 (y0.getD y1.toNat T5.dflt).1 ≥ (0 : Int) then
 some 6
 else
 Zn k j y0 (qa .i64 (y1 + 1))
 else none
 else
 Wn k j y0 0
def Wn (k : Nat) : Nat → List T5.T → Int → Option Int
 | 0, _, _ => none
 | j + 1, y0, y1 =>
 bif y1 < y0.length then
 Wo k j y0 y1 0
 else
 some 0
def Wo (k : Nat) : Nat → List T5.T → Int → Int → Option Int
 | 0, _, _, _ => none
 | j + 1, y0, y1, y2 =>
 bif y2 < y1 then
 if (0 ≤ y1) ∧ (y1 < y0.length) then
 if (0 ≤ y2) ∧ (y2 < y0.length) then
 bif ((y0.getD y1.toNat T5.dflt).2.1 == (y0.getD y2.toNat T5.dflt).2.1 && decide ((y0.getD y1.toNat T5.dflt).2.2.1 < qa .i64 ((y0.getD y2.toNat T5.dflt).2.2.1 + (y0.getD y2.toNat T5.dflt).2.2.2.1)) && decide ((y0.getD y2.toNat T5.dflt).2.2.1 < qa .i64 ((y0.getD y1.toNat T5.dflt).2.2.1 + (y0.getD y1.toNat T5.dflt).2.2.2.1))) then
 if (0 ≤ y1) ∧ (y1 < y0.length) ∧ (0 ≤ y2) ∧ (y2 < y0.length) ∧ (((y0.getD y1.toNat T5.dflt).2.1 == (y0.getD y2.toNat T5.dflt).2.1 && decide ((y0.getD y1.toNat T5.dflt).2.2.1 < qa .i64 ((y0.getD y2.toNat T5.dflt).2.2.1 + (y0.getD y2.toNat T5.dflt).2.2.2.1)) && decide ((y0.getD y2.toNat T5.dflt).2.2.1 < qa .i64 ((y0.getD y1.toNat T5.dflt).2.2.1 + (y0.getD y1.toNat T5.dflt).2.2.2.1))) = true) ∧ ((qd6 k (y0.getD y1.toNat T5.dflt).2.2.2.2.2 (y0.getD y2.toNat T5.dflt).2.2.2.2.2).isSome) then
 bif (true && qie k (y0.getD y1.toNat T5.dflt).2.2.2.2.2 (y0.getD y2.toNat T5.dflt).2.2.2.2.2) then
 some 12
 else
 Wo k j y0 y1 (qa .i64 (y2 + 1))
 else none
 else
 if (0 ≤ y1) ∧ (y1 < y0.length) ∧ (0 ≤ y2) ∧ (y2 < y0.length) ∧ (((y0.getD y1.toNat T5.dflt).2.1 == (y0.getD y2.toNat T5.dflt).2.1 && decide ((y0.getD y1.toNat T5.dflt).2.2.1 < qa .i64 ((y0.getD y2.toNat T5.dflt).2.2.1 + (y0.getD y2.toNat T5.dflt).2.2.2.1)) && decide ((y0.getD y2.toNat T5.dflt).2.2.1 < qa .i64 ((y0.getD y1.toNat T5.dflt).2.2.1 + (y0.getD y1.toNat T5.dflt).2.2.2.1))) = false) then
 Wo k j y0 y1 (qa .i64 (y2 + 1))
 else none
 else none
 else none
 else
 Wn k j y0 (qa .i64 (y1 + 1))
end
def qd4 (k : Nat) (a : List T5.T) (b : Int) (d : Int) : Option Int :=
 bif (decide (b < 1) || decide (b > 12000) || decide (d < 0) || decide (d > 17179869184)) then
 some 1
 else
 bif (↑a.length : Int) > (512 : Int) then
 some 8
 else
 Zo k k a b d 0
def qeO := fun k a b d => (qd4 k a b d).getD 0
def qJ0 (k : Nat) : Ke := (42, mo 3, fun
 | [.r (.ro f e), .r (.v (.int .i64 b)), .r (.v (.int .i64 d))], [] => (qC f T5 e).bind fun a => some (.one (ri (qeO k a b d), []))
 | _, _ => none)
def qzR (k : Nat) : Calld := qA [qji k, qJ2 k, qJ1 k]
def quM : List (Nat × List Cmd) := [(6, [.autoB [0, 1, 2, 7] false []]), (12, [.autoB [0, 9] false []]), (17, [.autoB [0, 10] false []]), (20, [.autoB [0, 10, 11] false []])]
abbrev qls := EP Tryz.f42 0 ri nb
theorem qvn (k) : ∀ j, (∀ {y0 y1 y2 y3}, qls 6 (qDy y0 y1 y2 y3) (Zo k j y0 y1 y2 y3)) ∧ (∀ {y0 y1}, qls 12 (qxV y0 y1) (Zn k j y0 y1)) ∧ (∀ {y0 y1}, qls 17 (qxW y0 y1) (Wn k j y0 y1)) ∧ (∀ {y0 y1 y2}, qls 20 (qxX y0 y1 y2) (Wo k j y0 y1 y2))
 | 0 => by and_intros <;> intros <;> exact e0
 | j + 1 => by
  have ih := @qvn k j
  have g := @go (qzR k) [] quM [.autoB [6] true []]
  refine ⟨?_, ?_, ?_, ?_⟩
  ·intro y0 y1 y2 y3 r h
   rw [Zo] at h
   exact g (gS h (fun h => qv h qI3 fun h => qu h fun h => gD h 6 ih.1) fun h => gD h 12 ih.2.1)
  ·intro y0 y1 r h
   rw [Zn] at h
   exact g (gS h (fun h => gN h (fun q => qf q.1 (qf q.2.1 (qf (qiw q.2.2) qP))) fun h => qu h fun h => gD h 12 ih.2.1) fun h => gD h 17 ih.2.2.1)
  ·intro y0 y1 r h
   rw [Wn] at h
   exact g (gS h (fun h => gD h 20 ih.2.2.2) fun h => gL h)
  ·intro y0 y1 y2 r h
   rw [Wo] at h
   exact g (gS h (fun h => qU h fun h => qU h fun h => gS h (fun h => gN h (fun q => qf q.1 (qf q.2.1 (qf q.2.2.1 (qf q.2.2.2.1 (qf q.2.2.2.2.1 (qf (qI2 q.2.2.2.2.2) qP)))))) fun h => qu h fun h => gD h 20 ih.2.2.2) fun h => gN h (fun q => qf q.1 (qf q.2.1 (qf q.2.2.1 (qf q.2.2.2.1 (qf q.2.2.2.2 qP))))) fun h => gU2 h (.leaf (.r (.v (.int .i64 12))) []) fun h => gD h 20 ih.2.2.2) fun h => gD h 17 ih.2.2.1)
theorem qKV (k a b d r) (h : qd4 k a b d = some r): qyW a b d r := qO Tryz.f42 (go (qzR k) [] quM [.autoB [6] true []] (qu h fun h => qu h fun h => gD h 6 (qvn k k).1))
theorem qI1 {k a b d} (h : (qd4 k a b d).isSome): qyW a b d (qeO k a b d) := qJ h (qKV k a b d)
end
theorem qsQ (k : Nat) (n : Int) (c : Ch) (hm : goods c.2.2.2) (hl : c.2.2.2.length ≤ 256) : ∀ (d i j : Nat), i + d = c.2.2.2.length → d < j →
  QB k j n (i : Int) c = some (if fitsIn n (c.2.2.2.drop i) then 0 else 21) := by
 intro d
 induction d with
 | zero =>
  intro i j hi hj
  obtain ⟨j, rfl⟩ := qW (by omega : 0 < j)
  rw [QB, qq (by omega : ¬ (i : Int) < (c.2.2.2.length : Int)), qg, qo (by omega), qc (by trivial)]
 | succ d ih =>
  intro i j hi hj
  obtain ⟨j, rfl⟩ := qW (by omega : 0 < j)
  have hg : good (c.2.2.2.getD i T3.dflt) := hm.mem _ (w8 _ _ _ (by omega))
  rw [QB, qw (by omega : (i : Int) < (c.2.2.2.length : Int)), qj, qe, XC k _ hg, qb4 k _ hg, qc ⟨by omega, by omega, rfl⟩, qt c.2.2.2 i T3.dflt (by omega), qH i (by omega)]
  show (bif decide (Go.AM.hi (c.2.2.2.getD i T3.dflt) ≥ n) then _ else _) = _
  by_cases h : Go.AM.hi (c.2.2.2.getD i T3.dflt) ≥ n
  ·rw [qw h, qj, qi (fun e : fitsIn n (c.2.2.2.getD i T3.dflt :: c.2.2.2.drop (i + 1)) => by have := e.1; omega)]
  ·rw [qq h, qg, ih (i + 1) j (by omega) (by omega)]
   by_cases h2 : fitsIn n (c.2.2.2.drop (i + 1))
   ·rw [qc h2, qc (show fitsIn n (c.2.2.2.getD i T3.dflt :: c.2.2.2.drop (i + 1)) from ⟨by omega, h2⟩)]
   ·rw [qi h2, qi (fun e : fitsIn n (c.2.2.2.getD i T3.dflt :: c.2.2.2.drop (i + 1)) => h2 e.2)]
theorem qeD (k : Nat) (hk : 2100 ≤ k) (c : Ch) (w n : Int) (hw : 0 ≤ w ∧ w ≤ 12000) :
  (bif (decide (c.1 < (0 : Int)) || decide (c.2.1 < (1 : Int)) || decide (c.1 > w) || decide (c.2.1 > qa .i64 (w - c.1))) then some 20
   else if ((ZW k c.2.2.2).isSome = true) then
    bif (Qb k c.2.2.2 != (0 : Int)) then some (Qb k c.2.2.2)
    else bif ((↑ (qb c.2.2.2) : Int) == (0 : Int)) then some 10
    else if ((YZ k c.2.2.2).isSome = true) then
     bif (!qb8 k c.2.2.2) then some 12
     else QB k k n 0 c
    else none
   else none) = some (qkl c w n) := by
 unfold qkl
 rw [qrM c w hw, vU k (by omega), Qy k (by omega), qd, qc rfl, qeB k hk, qoe k hk, qd, qc rfl]
 by_cases h1 : c.1 < 0 ∨ c.2.1 < 1 ∨ c.1 > w ∨ c.2.1 > w - c.1
 ·rw [qw h1, qj, qc h1]
 ·rw [qq h1, qg, qi h1]
  by_cases h2 : chk c.2.2.2 = 0
  ·have hc := wU.1 h2
   have hl := hc.len
   rw [show (chk c.2.2.2 != 0) = false by simp [h2], qg, qi (fun h : chk c.2.2.2 ≠ 0 => h h2)]
   by_cases h3 : c.2.2.2 = []
   ·rw [h3, qc rfl]; rfl
   ·rw [qi h3, show (((qb c.2.2.2 : Nat) : Int) == 0) = false from beq_false_of_ne (fun e => h3 (List.length_eq_zero_iff.1 (by omega))), qg]
    cases h4 : vu c.2.2.2
    ·rfl
    ·rw [ve, qg, qi (by decide)]
     refine (qsQ k n c hc.goods hl c.2.2.2.length 0 k (by omega) (by omega)).trans ?_
     rw [wv]
  ·rw [show (chk c.2.2.2 != 0) = true by simp [h2], qj, qc h2]
theorem qj5 (k : Nat) (hk : 2100 ≤ k) (W L : Int) (hW : 0 ≤ W ∧ W ≤ 12000) (l : List Ro) (i : Nat) (hi : i < l.length) (hl : l.length ≤ 1000) (hp : Wl (l.take i)) : qd7 k l (i : Int) W L = some (vK (l.take i) W L (l.getD i T5.dflt)) := by
 unfold qd7 vK
 rw [qc ⟨by omega, by omega⟩, qe]
 have hlt : (l.take i).length = i := by rw [WZ]; omega
 obtain ⟨o, o1, o2, o3⟩ := qax k (l.take i) (l.drop i) (l.getD i T5.dflt).2.1 (by omega) (by omega)
 rw [qlu, hlt] at o1 o2
 generalize hr : l.getD i T5.dflt = r at *
 by_cases h1 : r.1 < 1 ∨ r.1 > 1000000
 ·rw [qc h1, show (decide (r.1 < 1) || decide (r.1 > 1000000)) = true by simpa using h1, qj]
 ·rw [qi h1, show (decide (r.1 < 1) || decide (r.1 > 1000000)) = false by simp; omega, qg]
  have hs := hp.size (L := L) hW r.2.1
  by_cases h2 : r.2.1 = 0
  ·rw [show (r.2.1 != 0) = false by simp [h2], qg, qi (fun h : r.2.1 ≠ 0 ∧ look (l.take i) r.2.1 = none => h.1 h2)]
   unfold wh
   rw [qc h2]
   exact qeD k hk r.2.2 W L hW
  ·rw [show (r.2.1 != 0) = true by simp [h2], qj, o1, o2, qd, qc rfl]
   cases e : look (l.take i) r.2.1 with
   | none =>
    rw [o3.none e, qc (show r.2.1 ≠ 0 ∧ (none : Option Ro) = none from ⟨h2, rfl⟩)]; rfl
   | some q =>
    obtain ⟨x, e1, e2, e3⟩ := o3.some e
    have hq := (hp q (zy e).1).chk
    have e4 : l.getD x T5.dflt = q := by
     have := e3 T5.dflt
     rw [← this]
     have h5 := Ym (l.take i) (l.drop i) x T5.dflt e2
     rw [qlu] at h5
     exact h5
    have hx : (x : Int) < (l.length : Int) := by omega
    have hx0 : (0 : Int) ≤ (x : Int) := by omega
    rw [e1, qi (show ¬ (r.2.1 ≠ 0 ∧ some q = none) from fun h => nomatch h.2), qMF, qq (by omega : ¬ (x : Int) < 0), qg, qc ⟨hx0, hx⟩, qe, e4, XA k hk _ hq, qb3 k hk _ hq, qc ⟨hx0, hx, rfl⟩]
    unfold wh
    rw [qi h2, e]
    unfold wh at hs
    rw [qi h2, e] at hs
    exact qeD k hk r.2.2 _ _ hs
theorem qt4 (k : Nat) (hk : 2100 ≤ k) (W L : Int) (hW : 0 ≤ W ∧ W ≤ 12000) (l : List Ro) (i : Nat) (hi : i < l.length) (hl : l.length ≤ 1000) (hp : Wl (l.take i)) : qeP k l (i : Int) W L = vK (l.take i) W L (l.getD i T5.dflt) := by
 unfold qeP; rw [qj5 k hk W L hW l i hi hl hp]; rfl
theorem qoj (k : Nat) (hk : 70000 ≤ k) (l : List Ro) (hl : Wl l) (hll : l.length ≤ 512) (i : Nat) (hi : i < l.length) : ∀ (d q m : Nat), q + d = i →
  Wo k (m + d + 1) l (i : Int) (q : Int) = if QA ((l.take i).drop q) (l.getD i T5.dflt) = true then some 12 else Wn k m l (qa .i64 ((i : Int) + 1)) := by
 intro d
 have hr : Small (l.getD i T5.dflt).2.2 := hl _ (w8 _ _ _ (by omega))
 have hlt : (l.take i).length = i := by rw [WZ]; omega
 induction d with
 | zero =>
  intro q m hq
  rw [Wo, qq (by omega : ¬ (q : Int) < (i : Int)), qg, qo (by omega), qi (by unfold QA; rw [List.any_nil]; decide)]
 | succ d ih =>
  intro q m hq
  have hs : Small (l.getD q T5.dflt).2.2 := hl _ (w8 _ _ _ (by omega))
  have hc : QA ((l.take i).drop q) (l.getD i T5.dflt) = (((l.getD i T5.dflt).2.1 == (l.getD q T5.dflt).2.1) && VV (l.getD i T5.dflt).2.2 (l.getD q T5.dflt).2.2 || QA ((l.take i).drop (q + 1)) (l.getD i T5.dflt)) := by
   have h5 := Ym (l.take i) (l.drop i) q T5.dflt (by omega)
   rw [qlu] at h5
   rw [h5]
   unfold QA
   rw [qt (l.take i) q T5.dflt (by omega), List.any_cons]
  obtain ⟨a1, a2, a3, a4⟩ := hr
  obtain ⟨b1, b2, b3, b4⟩ := hs
  rw [show m + (d + 1) + 1 = (m + d + 1) + 1 from rfl, Wo, qw (by omega : (q : Int) < (i : Int)), qj, qc ⟨by omega, by omega⟩, qc ⟨by omega, by omega⟩, qe, qe, hc, qH q (by omega), ih (q + 1) m (by omega)]
  generalize QA ((l.take i).drop (q + 1)) (l.getD i T5.dflt) = z
  generalize l.getD i T5.dflt = r at *
  generalize l.getD q T5.dflt = b at *
  rw [qm (i := b.2.2.1 + b.2.2.2.1) (by omega) (by omega), qm (i := r.2.2.1 + r.2.2.2.1) (by omega) (by omega)]
  unfold VV
  cases e : ((r.2.1 == b.2.1) && decide (r.2.2.1 < b.2.2.1 + b.2.2.2.1) && decide (b.2.2.1 < r.2.2.1 + r.2.2.2.1))
  ·rw [qg, qc ⟨by omega, by omega, by omega, by omega, rfl⟩]
   rw [show ((r.2.1 == b.2.1) && ((decide (r.2.2.1 < b.2.2.1 + b.2.2.2.1) && decide (b.2.2.1 < r.2.2.1 + r.2.2.2.1)) && Vt r.2.2.2.2.2 b.2.2.2.2.2)) = false by rw [← Bool.and_assoc, ← Bool.and_assoc, e, wE], vH]
  ·rw [qj, qhZ k hk _ _ a4 b4, qsP k hk _ _ a4 b4, qc ⟨by omega, by omega, by omega, by omega, rfl, rfl⟩, wH]
   rw [show ((r.2.1 == b.2.1) && ((decide (r.2.2.1 < b.2.2.1 + b.2.2.2.1) && decide (b.2.2.1 < r.2.2.1 + r.2.2.2.1)) && Vt r.2.2.2.2.2 b.2.2.2.2.2)) = Vt r.2.2.2.2.2 b.2.2.2.2.2 by rw [← Bool.and_assoc, ← Bool.and_assoc, e, wH]]
   cases Vt r.2.2.2.2.2 b.2.2.2.2.2
   ·rw [qg, vH]
   ·rfl
set_option maxRecDepth 20000 in
theorem qoi (k : Nat) (hk : 70000 ≤ k) (l : List Ro) (hl : Wl l) (hll : l.length ≤ 512) : ∀ (d i j : Nat), i + d = l.length → d * 514 < j →
  Wn k j l (i : Int) = some (if zf (l.take i) (l.drop i) = true then 12 else 0) := by
 intro d
 induction d with
 | zero =>
  intro i j hi hj
  obtain ⟨j, rfl⟩ := qW (by omega : 0 < j)
  rw [Wn, qq (by omega : ¬ (i : Int) < (l.length : Int)), qg, qo (by omega), zf, qi (by decide)]
 | succ d ih =>
  intro i j hi hj
  obtain ⟨j, rfl⟩ : ∃ q, j = (q + i + 1) + 1 := ⟨j - i - 2, by omega⟩
  have h20 := qoj k hk l hl hll i (by omega) i 0 j (by omega)
  rw [Wn, qw (by omega : (i : Int) < (l.length : Int)), qj]
  refine h20.trans ?_
  rw [wv, qH i (by omega), ih (i + 1) j (by omega) (by omega), qt l i T5.dflt (by omega), zf, zz l i T5.dflt (by omega)]
  cases QA (l.take i) (l.getD i T5.dflt)
  ·rw [qi (by decide), vH]
  ·rfl
set_option maxRecDepth 20000 in
theorem qoh (k : Nat) (hk : 70000 ≤ k) (l : List Ro) (hl : Wl l) (hll : l.length ≤ 512) : ∀ (d i j : Nat), i + d = l.length → d + 1 + 263168 < j →
  Zn k j l (i : Int) = some (if vJ (l.take i) (l.drop i) = true then 6 else if zf [] l = true then 12 else 0) := by
 intro d
 induction d with
 | zero =>
  intro i j hi hj
  obtain ⟨j, rfl⟩ := qW (by omega : 0 < j)
  have h17 := qoi k hk l hl hll l.length 0 j (by omega) (by omega)
  rw [Zn, qq (by omega : ¬ (i : Int) < (l.length : Int)), qg, qo (by omega), vJ, qi (by decide)]
  exact h17
 | succ d ih =>
  intro i j hi hj
  obtain ⟨j, rfl⟩ := qW (by omega : 0 < j)
  have hlt : (l.take i).length = i := by rw [WZ]; omega
  obtain ⟨o, o1, o2, o3⟩ := qax k (l.take i) (l.drop i) (l.getD i T5.dflt).1 (by omega) (by omega)
  rw [qlu, hlt] at o1 o2
  rw [Zn, qw (by omega : (i : Int) < (l.length : Int)), qj, qe, o1, o2, qc ⟨by omega, by omega, rfl⟩, qt l i T5.dflt (by omega), vJ, qH i (by omega), ih (i + 1) j (by omega) (by omega), zz l i T5.dflt (by omega)]
  cases e : look (l.take i) (l.getD i T5.dflt).1 with
  | none => rw [o3.none e]; rfl
  | some q =>
   obtain ⟨x, e1, _, _⟩ := o3.some e
   rw [e1, qMF, qw (by omega : (x : Int) ≥ 0)]; rfl
theorem qp6 (k : Nat) (hk : 70000 ≤ k) (l : List Ro) (W L : Int) (hW : 0 ≤ W ∧ W ≤ 12000) (hll : l.length ≤ 512) : ∀ (d i j : Nat), i + d = l.length → d + 2 + 512 + 263168 < j → Wl (l.take i) →
  Zo k j l W L (i : Int) = some (if w7 W L (l.take i) (l.drop i) ≠ 0 then w7 W L (l.take i) (l.drop i) else if vJ [] l = true then 6 else if zf [] l = true then 12 else 0) := by
 intro d
 induction d with
 | zero =>
  intro i j hi hj hw
  obtain ⟨j, rfl⟩ := qW (by omega : 0 < j)
  rw [zj (by omega : l.length ≤ i)] at hw
  have h12 := qoh k hk l hw hll l.length 0 j (by omega) (by omega)
  rw [Zo, qq (by omega : ¬ (i : Int) < (l.length : Int)), qg, qo (by omega), w7, qi (fun h => h rfl)]
  exact h12
 | succ d ih =>
  intro i j hi hj hw
  obtain ⟨j, rfl⟩ := qW (by omega : 0 < j)
  have ht := zz l i T5.dflt (by omega)
  rw [Zo, qw (by omega : (i : Int) < (l.length : Int)), qj, qj5 k (by omega) W L hW l i (by omega) (by omega) hw, qt4 k (by omega) W L hW l i (by omega) (by omega) hw, qd, qc rfl, qt l i T5.dflt (by omega), w7, qH i (by omega)]
  by_cases h1 : vK (l.take i) W L (l.getD i T5.dflt) = 0
  ·have hw2 : Wl (l.take (i + 1)) := by rw [ht]; exact hw.snoc hW h1
   have := ih (i + 1) j (by omega) (by omega) hw2
   rw [h1]
   show Zo k j l W L ((i + 1 : Nat) : Int) = _
   rw [this, ht]
   rfl
  ·rw [show (vK (l.take i) W L (l.getD i T5.dflt) != 0) = true from bne_iff_ne.2 h1, qj, qc h1, qc h1]
theorem qgz (k : Nat) (hk : 300000 ≤ k) (l : List Ro) (W L : Int) : qd4 k l W L = some (wY l W L) := by
 unfold qd4 wY
 by_cases h1 : W < 1 ∨ W > 12000 ∨ L < 0 ∨ L > 17179869184
 ·rw [qc h1, show (decide (W < (1 : Int)) || decide (W > (12000 : Int)) || decide (L < (0 : Int)) || decide (L > (17179869184 : Int))) = true by simp; omega]
  rfl
 ·rw [qi h1, show (decide (W < (1 : Int)) || decide (W > (12000 : Int)) || decide (L < (0 : Int)) || decide (L > (17179869184 : Int))) = false by simp; omega, qg]
  by_cases h2 : l.length > 512
  ·rw [qc h2, qw (by omega : (l.length : Int) > 512)]
   rfl
  ·rw [qi h2, qq (by omega : ¬ (l.length : Int) > 512), qg]
   have := qp6 k (by omega) l W L (by omega) (by omega) l.length 0 k (by omega) (by omega) (fun r hr => by simp at hr)
   exact this
theorem qp7 (k : Nat) (hk : 300000 ≤ k) (l : List Ro) (W L : Int) : qeO k l W L = wY l W L := by
 unfold qeO; rw [qgz k hk l W L]; rfl
end Go.AM
namespace Go.AM
open Go
theorem qac {a : List Ro} {id : Int} {q : Ro} (b : List Ro) (h : look a id = some q) : look (a ++ b) id = some q := by
 rw [QZ, h]; rfl
theorem qpB {a : List Ro} {W L id : Int} (b : List Ro) (h : id = 0 ∨ ∃ q, look a id = some q) : wh (a ++ b) W L id = wh a W L id := by
 unfold wh
 by_cases h0 : id = 0
 ·rw [qc h0, qc h0]
 ·rw [qi h0, qi h0]
  rcases h with h | ⟨q, h⟩
  ·exact absurd h h0
  ·rw [qac b h, h]
structure RollOk (l : List Ro) (W L : Int) (r : Ro) : Prop where
 look : look l r.1 = some r
 pos : 1 ≤ r.1
 parent : r.2.1 = 0 ∨ ∃ q, Go.AM.look l r.2.1 = some q
 cut : CutOk r.2.2 (wh l W L r.2.1).1 (wh l W L r.2.1).2
theorem Okp.ro {W L : Int} {l : List Ro} (h : Okp W L l) : ∀ r ∈ l, RollOk l W L r := by
 induction h with
 | nil => intro r hr; simp at hr
 | snoc p r h f n c ih =>
  intro x hx
  rcases zX.1 hx with hx | hx
  ·obtain ⟨a, b, c, d⟩ := ih x hx
   refine ⟨qac _ a, b, ?_, by rw [qpB _ c]; exact d⟩
   rcases c with c | ⟨q, c⟩
   ·exact .inl c
   ·exact .inr ⟨q, qac _ c⟩
  ·rw [List.mem_singleton] at hx
   subst hx
   obtain ⟨a, b, c, d⟩ := f
   refine ⟨?_, a, ?_, by rw [qpB _ c]; exact d⟩
   ·rw [QZ, n, Option.none_or]; unfold Go.AM.look; simp
   ·rcases c with c | ⟨q, c⟩
    ·exact .inl c
    ·exact .inr ⟨q, qac _ c⟩
inductive Anc (l : List Ro) : Nat → Int → Prop
 | root (n : Nat) : Anc l n 0
 | step (n : Nat) (id : Int) (r : Ro) (h0 : id ≠ 0) (h : look l id = some r) (a : Anc l n r.2.1) : Anc l (n + 1) id
theorem Anc.mono {l : List Ro} {n m : Nat} {id : Int} (h : Anc l n id) (hm : n ≤ m) : Anc l m id := by
 induction h generalizing m with
 | root n => exact .root m
 | step n id r h0 h a ih =>
  obtain ⟨m, rfl⟩ := qW (by omega : 0 < m)
  exact .step m id r h0 h (ih (by omega))
theorem Anc.left {l : List Ro} {n : Nat} {id : Int} (h : Anc l n id) (t : List Ro) : Anc (l ++ t) n id := by
 induction h with
 | root n => exact .root n
 | step n id r h0 h a ih => exact .step n id r h0 (qac t h) ih
theorem Okp.anc {W L : Int} {l : List Ro} (h : Okp W L l) : ∀ r ∈ l, Anc l l.length r.1 := by
 induction h with
 | nil => intro r hr; simp at hr
 | snoc p r h f n c ih =>
  intro x hx
  rw [qT, qz]
  rcases zX.1 hx with hx | hx
  ·exact ((ih x hx).mono (by omega)).left _
  ·rw [List.mem_singleton] at hx
   subst hx
   obtain ⟨a, b, c, d⟩ := f
   refine .step p.length x.1 x (by omega) (by rw [QZ, n, Option.none_or]; unfold look; simp) ?_
   rcases c with c | ⟨q, c⟩
   ·rw [c]; exact .root _
   ·have := (ih q (zy c).1).left [x]
    rw [(zy c).2] at this
    exact this
theorem Reg.anc {W L : Int} {l : List Ro} (h : Reg l W L) {id : Int} (hi : id = 0 ∨ ∃ q, look l id = some q) : Anc l 512 id := by
 rcases hi with rfl | ⟨q, e⟩
 ·exact .root _
 ·have := h.ok.anc q (zy e).1
  rw [(zy e).2] at this
  exact this.mono h.num
theorem Reg.small {W L : Int} {l : List Ro} (h : Reg l W L) : ∀ (n : Nat) (id : Int), Anc l n id → 0 ≤ (wh l W L id).1 ∧ (wh l W L id).1 ≤ 12000 ∧ 0 ≤ (wh l W L id).2 ∧ (wh l W L id).2 ≤ 17179869184 := by
 intro n id ha
 have hw := h.w
 have hl := h.len
 induction ha with
 | root n => unfold wh; rw [qc rfl]; omega
 | step n id r h0 e a ih =>
  have ro := h.ok.ro r (zy e).1
  obtain ⟨c1, c2, c3, c4, _⟩ := ro.cut
  have h1 : (wh l W L id) = (r.2.2.2.1, qp r.2.2.2.2.2) := by unfold wh; rw [qi h0, e]
  rw [h1]
  have h2 := zg c4.goods
  have h3 := c4.tot
  refine ⟨?_, ?_, ?_, ?_⟩
  ·show 0 ≤ r.2.2.2.1; omega
  ·show r.2.2.2.1 ≤ _; omega
  ·show 0 ≤ qp r.2.2.2.2.2; omega
  ·show qp r.2.2.2.2.2 ≤ _; omega
def qaf (r : Ro) (p : Pt) : Pt := (r.2.1, (if r.2.2.2.2.1 = true then r.2.2.1 + r.2.2.2.1 - 1 - p.2.1 else r.2.2.1 + p.2.1), q9 r.2.2.2.2.2 p.2.2)
structure On (l : List Ro) (W L : Int) (p : Pt) : Prop where
 a0 : 0 ≤ p.2.1
 a1 : p.2.1 < (wh l W L p.1).1
 b0 : 0 ≤ p.2.2
 b1 : p.2.2 < (wh l W L p.1).2
theorem qhz : ∀ {m : List Rn} {x : Int}, goods m → 0 ≤ x → x < qp m → ∃ r ∈ m, lo r ≤ q9 m x ∧ q9 m x ≤ hi r
 | [], x, _, h0, h1 => by simp [qp] at h1; omega
 | r :: t, x, ⟨g1, g2⟩, h0, h1 => by
  rw [qp] at h1
  unfold q9
  by_cases h : x < r.2.1
  ·rw [qc h]
   exact ⟨r, by simp, qjg h0 h⟩
  ·rw [qi h]
   obtain ⟨q, hq, a⟩ := qhz g2 (by omega : 0 ≤ x - r.2.1) (by omega)
   exact ⟨q, by simp [hq], a⟩
theorem qkr {n : Int} : ∀ {l : List Rn}, fitsIn n l → ∀ r ∈ l, hi r < n
 | [], _, r, h => by simp at h
 | u :: t, ⟨h1, h2⟩, r, hr => by
  rcases qK.1 hr with rfl | hr
  ·exact h1
  ·exact qkr h2 r hr
theorem On.place {l : List Ro} {W L : Int} {p : Pt} {r : Ro} (hp : p.1 ≠ 0) (h : On l W L p) (e : look l p.1 = some r) (ro : RollOk l W L r) : On l W L (qaf r p) := by
 obtain ⟨a0, a1, b0, b1⟩ := h
 obtain ⟨c1, c2, c3, c4, c5, c6, c7⟩ := ro.cut
 have h1 : (wh l W L p.1) = (r.2.2.2.1, qp r.2.2.2.2.2) := by unfold wh; rw [qi hp, e]
 rw [h1] at a1 b1
 have a1 : p.2.1 < r.2.2.2.1 := a1
 have b1 : p.2.2 < qp r.2.2.2.2.2 := b1
 obtain ⟨x, hx, i1, i2⟩ := qhz c4.goods b0 b1
 have h2 := qkr c7 x hx
 obtain ⟨l1, l2, l3, l4⟩ := (c4.goods.mem x hx).lohi
 refine ⟨?_, ?_, ?_, ?_⟩
 ·show 0 ≤ (if r.2.2.2.2.1 = true then _ else _ : Int)
  split <;> omega
 ·show (if r.2.2.2.2.1 = true then _ else _ : Int) < (wh l W L r.2.1).1
  split <;> omega
 ·show 0 ≤ q9 _ _; omega
 ·show q9 _ _ < (wh l W L r.2.1).2; omega
def qga (l : List Ro) : Nat → Pt → Pt
 | 0, p => p
 | n + 1, p => if p.1 = 0 then p else match look l p.1 with
  | none => p
  | some r => qga l n (qaf r p)
end Go.AM
namespace Go.AM
open Go Go.Proofs
noncomputable section
def qs0 (r : Int × Int × Int) : AV := .tup [ri r.1, ri r.2.1, ri r.2.2]
abbrev qyZ (a : List T5.T) (b : T23.T) (d : Int) (r : Int × Int × Int) : Prop := CC Tryz.prog 103 [ro T5 a, .agg (qB (qr T23 b)), ri d] [] (qs0 r) (nb r)
def Y3 (k : Nat) (a : List T5.T) (b : T23.T) (d : Int) : Option (Int × Int × Int) :=
 if ((qd4 k a b.1 b.2).isSome) then
 bif (qeO k a b.1 b.2 != (0 : Int)) then
 some (0, 0, qeO k a b.1 b.2)
 else
 bif (d == 0) then
 some (b.1, b.2, 0)
 else
 if ((Vf k a (↑a.length : Int) d).isSome) then
 bif q8 k a (↑a.length : Int) d < 0 then
 some (0, 0, 7)
 else
 if ((0 : Int) ≤ q8 k a (↑a.length : Int) d) ∧ (q8 k a (↑a.length : Int) d < a.length) ∧ ((0 : Int) ≤ q8 k a (↑a.length : Int) d) ∧ (q8 k a (↑a.length : Int) d < a.length) ∧ ((Y2 k (a.getD (ql (q8 k a (↑a.length : Int) d)) T5.dflt).2.2.2.2.2).isSome) then
 some ((a.getD (ql (q8 k a (↑a.length : Int) d)) T5.dflt).2.2.2.1, Vp k (a.getD (ql (q8 k a (↑a.length : Int) d)) T5.dflt).2.2.2.2.2, 0)
 else none
 else none
 else none
def vG := fun k a b d => (Y3 k a b d).getD (0, 0, 0)
def qvS (k : Nat) : Ke := (103, mo 3, fun
 | [.r (.ro g e), .agg f, .r (.v (.int .i64 d))], [] => (qC g T5 e).bind fun a => (qX [] T23 f).bind fun b => some (.one (qs0 (vG k a b d), []))
 | _, _ => none)
theorem qKY (k a b d r) (h : Y3 k a b d = some r): qyZ a b d r := qO Tryz.f103 (go (qA [qnX k, qji k, qJ0 k]) [] [] [.autoB [6, 7, 8] true []] (qv h qI1 fun h => qu h fun h => qu h fun h => qv h qiw fun h => qu h fun h => gN h (fun q => qf q.1 (qf q.2.1 (qf q.2.2.1 (qf q.2.2.2.1 (qf (qnw q.2.2.2.2) qP))))) fun h => gL h))
theorem qus {k a b d} (h : (Y3 k a b d).isSome): qyZ a b d (vG k a b d) := qJ h (qKY k a b d)
end
def vp (l : List Ro) (W L id : Int) : Int := if wY l W L ≠ 0 then wY l W L else if id ≠ 0 ∧ look l id = none then 7 else 0
structure Kno (l : List Ro) (W L id : Int) : Prop where
 reg : Reg l W L
 kn : id = 0 ∨ ∃ q, look l id = some q
theorem Zi {l : List Ro} {W L id : Int} : vp l W L id = 0 ↔ Kno l W L id := by
 unfold vp
 constructor
 ·intro h
  by_cases h1 : wY l W L = 0
  ·rw [qi (fun h : wY l W L ≠ 0 => h h1)] at h
   refine ⟨qde.1 h1, ?_⟩
   by_cases h2 : id = 0
   ·exact .inl h2
   ·right
    cases e : look l id with
    | none => rw [qc ⟨h2, e⟩] at h; omega
    | some q => exact ⟨q, rfl⟩
  ·rw [qc h1] at h; exact absurd h h1
 ·rintro ⟨h1, h2⟩
  rw [qi (fun h : wY l W L ≠ 0 => h (qde.2 h1)), qi (fun h : id ≠ 0 ∧ look l id = none => by
   rcases h2 with h2 | ⟨q, h2⟩
   ·exact h.1 h2
   ·rw [h2] at h; cases h.2)]
theorem qrS (k : Nat) (hk : 300000 ≤ k) (l : List Ro) (web : Int × Int) (id : Int) : (vp l web.1 web.2 id ≠ 0 → Wv k l web id = some (.inl (vp l web.1 web.2 id))) ∧ (vp l web.1 web.2 id = 0 → ∃ M, v8 M l ∧ Wl l ∧ Wv k l web id = some (.inr (0, web.1, web.2, l, M))) := by
 obtain ⟨h1, h2⟩ := qES k hk l web
 by_cases h : wY l web.1 web.2 = 0
 ·obtain ⟨M, m1, m2, e⟩ := h2 h
  have hX : Wv k l web id = bif ((0 : Int) == 0 && id != 0) then (if (((0 : Int) == 0 && id != 0) = true) ∧ ((Xh k web.1 web.2 l M id).isSome = true) then (bif (true && !WF k web.1 web.2 l M id) then some (.inl 7) else some (.inr (0, web.1, web.2, l, M))) else none) else (if (((0 : Int) == 0 && id != 0) = false) then some (.inr (0, web.1, web.2, l, M)) else none) := by
   unfold Wv XK w6 YL
   rw [e]; rfl
  have hkn : WF k web.1 web.2 l M id = (wb I id M).isSome := by unfold WF Xh; rfl
  rw [hX, hkn]
  unfold vp
  rw [qi (fun h' : wY l web.1 web.2 ≠ 0 => h' h)]
  by_cases h0 : id = 0
  ·rw [show ((0 : Int) == 0 && id != 0) = false by simp [h0], qg, qc rfl, qi (fun h' : id ≠ 0 ∧ look l id = none => h'.1 h0)]
   exact ⟨fun h => absurd rfl h, fun _ => ⟨M, m1, m2, rfl⟩⟩
  ·rw [show ((0 : Int) == 0 && id != 0) = true by simp [h0], qj, qc (show true = true ∧ (Xh k web.1 web.2 l M id).isSome = true from ⟨rfl, rfl⟩)]
   cases e : look l id with
   | none =>
    rw [(m1 id).none e, qc (show id ≠ 0 ∧ (none : Option Ro) = none from ⟨h0, rfl⟩)]
    exact ⟨fun _ => rfl, fun h => absurd h (by decide)⟩
   | some q =>
    obtain ⟨i, e1, e2, e3⟩ := (m1 id).some e
    rw [e1, qi (fun h : id ≠ 0 ∧ some q = none => nomatch h.2)]
    exact ⟨fun h => absurd rfl h, fun _ => ⟨M, m1, m2, rfl⟩⟩
 ·have hX : Wv k l web id = bif (wY l web.1 web.2 == 0 && id != 0) then none else if (wY l web.1 web.2 == 0 && id != 0) = false then some (.inl (wY l web.1 web.2)) else none := by
   unfold Wv XK w6 YL
   rw [h1 h]; rfl
  rw [hX]
  unfold vp
  rw [qc h, show (wY l web.1 web.2 == 0) = false from beq_false_of_ne h, wE, qg, qc rfl]
  exact ⟨fun _ => rfl, fun h' => absurd h' h⟩
def z8 (l : List Ro) (W L id : Int) : Int × Int × Int := if vp l W L id ≠ 0 then (0, 0, vp l W L id) else ((wh l W L id).1, (wh l W L id).2, 0)
theorem qET (k : Nat) (hk : 2100 ≤ k) (W L : Int) (l : List Ro) (M : List (Int × Int)) (id : Int) (hp : Wl l) (hM : v8 M l) (h : id = 0 ∨ ∃ q, look l id = some q) : Yy k W L l M id = some (wh l W L id) ∧ Q7 k W L l M id = wh l W L id := by
 have a := qaM k hk W L l [] M id hp hM h
 have b := qfx k hk W L l [] M id hp hM h
 rw [zH] at a b
 exact ⟨a, b⟩
theorem qmg (k : Nat) (hk : 300000 ≤ k) (l : List Ro) (web : Int × Int) (id : Int) : qfn k l web id = some (z8 l web.1 web.2 id) := by
 obtain ⟨h1, h2⟩ := qrS k hk l web id
 unfold qfn XJ wC YK z8
 by_cases h : vp l web.1 web.2 id = 0
 ·obtain ⟨M, m1, m2, e⟩ := h2 h
  obtain ⟨a, b⟩ := qET k (by omega) web.1 web.2 l M id m2 m1 (Zi.1 h).kn
  rw [e, qi (fun h' : vp l web.1 web.2 id ≠ 0 => h' h)]
  show (if (Yy k web.1 web.2 l M id).isSome = true then some ((Q7 k web.1 web.2 l M id).1, (Q7 k web.1 web.2 l M id).2, (0 : Int)) else none) = _
  rw [a, b]; rfl
 ·rw [h1 h, qc h]
  show (bif (vp l web.1 web.2 id != 0) then _ else _) = _
  rw [bne_iff_ne.2 h]; rfl
theorem qxm (k : Nat) (hk : 300000 ≤ k) (l : List Ro) (web : Int × Int) (id : Int) : Qt k l web id = z8 l web.1 web.2 id := by
 unfold Qt; rw [qmg k hk l web id]; rfl
theorem qsL (k : Nat) (l : List Ro) (id : Int) (hp : l.length ≤ 100000) (hk : l.length < k) : ∃ o : Option Int, Vf k l (l.length : Int) id = some (o.getD (-1)) ∧ q8 k l (l.length : Int) id = o.getD (-1) ∧ At l id o := by
 have := qax k l [] id hp hk
 rw [zH] at this
 exact this
theorem ZI (k : Nat) (hk : 300000 ≤ k) (l : List Ro) (web : Int × Int) (id : Int) : Y3 k l web id = some (z8 l web.1 web.2 id) := by
 unfold Y3 z8 vp
 rw [qgz k hk, qp7 k hk, qd, qc rfl]
 by_cases h : wY l web.1 web.2 = 0
 ·have reg := qde.1 h
  have hn := reg.num
  rw [show (wY l web.1 web.2 != 0) = false by simp [h], qg, qi (fun h' : wY l web.1 web.2 ≠ 0 => h' h)]
  by_cases h0 : id = 0
  ·rw [show (id == 0) = true by simp [h0], qj, qi (fun h' : id ≠ 0 ∧ look l id = none => h'.1 h0), qi (fun h => h rfl)]
   unfold wh
   rw [qc h0]
  ·obtain ⟨o, o1, o2, o3⟩ := qsL k l id (by omega) (by omega)
   rw [show (id == 0) = false by simp [h0], qg, o1, o2, qd, qc rfl]
   cases e : look l id with
   | none =>
    rw [o3.none e, qc (show id ≠ 0 ∧ (none : Option Ro) = none from ⟨h0, rfl⟩)]
    rfl
   | some q =>
    obtain ⟨x, e1, e2, e3⟩ := o3.some e
    have hq := (reg.ok.ro q (zy e).1).cut.chk
    have hx : (x : Int) < (l.length : Int) := by omega
    have hx0 : (0 : Int) ≤ (x : Int) := by omega
    rw [e1, qMF, qq (by omega : ¬ (x : Int) < 0), qg, qe, e3, XA k (by omega) _ hq, qb3 k (by omega) _ hq, qc ⟨hx0, hx, hx0, hx, rfl⟩, qi (show ¬ (id ≠ 0 ∧ some q = none) from fun h => nomatch h.2), qi (fun h => h rfl)]
    unfold wh
    rw [qi h0, e]
 ·rw [show (wY l web.1 web.2 != 0) = true from bne_iff_ne.2 h, qj, qc h, qc h]
theorem XB (k : Nat) (hk : 300000 ≤ k) (l : List Ro) (web : Int × Int) (id : Int) : vG k l web id = z8 l web.1 web.2 id := by
 unfold vG; rw [ZI k hk l web id]; rfl
theorem Reg.wl {l : List Ro} {W L : Int} (h : Reg l W L) : Wl l := fun r hr => by
 have ro := h.ok.ro r hr
 obtain ⟨c1, c2, c3, c4, _⟩ := ro.cut
 have := h.small 512 r.2.1 (h.anc ro.parent)
 exact ⟨c1, c2, by omega, c4⟩
theorem qDk {l : List Ro} {W L id : Int} {r : Ro} (h0 : id ≠ 0) (e : look l id = some r) : wh l W L id = (r.2.2.2.1, qp r.2.2.2.2.2) := by
 unfold wh; rw [qi h0, e]
def vT (x : Int) (l : List Int) : Bool := l.any (fun y => y == x)
end Go.AM
namespace Go.AM
open Go Go.Proofs
noncomputable section
abbrev qyV (a : Int) (b : Int) (d : Int) (r : Int) : Prop := CC Tryz.prog 186 [ri a, ri b, ri d] [] (ri r) (nb r)
def qd3 (k : Nat) (a : Int) (b : Int) (d : Int) : Option Int :=
 bif (decide (a < 1) || decide (a > 2500) || decide (b < 1) || decide (b > 2500) || decide (d < 1) || decide (d > 5000)) then
 some 1
 else
 bif b < a then
 some 9
 else
 some 0
def qeN := fun k a b d => (qd3 k a b d).getD 0
def qJZ (k : Nat) : Ke := (186, mo 3, fun
 | [.r (.v (.int .i64 a)), .r (.v (.int .i64 b)), .r (.v (.int .i64 d))], [] => some (.one (ri (qeN k a b d), []))
 | _, _ => none)
theorem qKU (k a b d r) (h : qd3 k a b d = some r): qyV a b d r := qO Tryz.f186 (go (qA []) [] [] [.autoB [6] true []] (qu h fun h => qu h fun h => gL h))
theorem qI0 {k a b d} (h : (qd3 k a b d).isSome): qyV a b d (qeN k a b d) := qJ h (qKU k a b d)
def qsX (r : Int × Int) : AV := .tup [ri r.1, ri r.2]
abbrev qyT (a : Int) (b : Int) (d : Int) (r : Int × Int) : Prop := CC Tryz.prog 138 [ri a, ri b, ri d] [] (qsX r) (nb r)
def qd1 (k : Nat) (a : Int) (b : Int) (d : Int) : Option (Int × Int) :=
 if ((qd3 k a b d).isSome) then
 bif (qeN k a b d != 0) then
 some (0, qeN k a b d)
 else
 if (qa .i64 ((1000000000 : Int) * d) ≠ (0 : Int)) then
 some (qa .i64 ((qa .i64 (qa .i64 (3141592653 * qa .i64 (qa .i64 (b * b) - qa .i64 (a * a))) * 250)).tdiv (qa .i64 (1000000000 * d))), 0)
 else none
 else none
def qid := fun k a b d => (qd1 k a b d).getD (0, 0)
def qvR (k : Nat) : Ke := (138, mo 3, fun
 | [.r (.v (.int .i64 a)), .r (.v (.int .i64 b)), .r (.v (.int .i64 d))], [] => some (.one (qsX (qid k a b d), []))
 | _, _ => none)
theorem qKS (k a b d r) (h : qd1 k a b d = some r): qyT a b d r := qO Tryz.f138 (go (qA [qJZ k]) [] [] [.autoB [6, 7] true []] (qv h qI0 fun h => qu h fun h => qv h id fun h => gL h))
theorem qIY {k a b d} (h : (qd1 k a b d).isSome): qyT a b d (qid k a b d) := qJ h (qKS k a b d)
def qk3 (r : Int × Int) : AV := .tup [ri r.1, ri r.2]
abbrev qyS (a : Int) (b : Int) (d : Int) (r : Int × Int) : Prop := CC Tryz.prog 97 [ri a, ri b, ri d] [] (qk3 r) (nb r)
def qDx := fun y0 y1 y2 y3 => (⟨qM 49 [(0, ri y0), (1, ri y1), (2, ri y2), (8, ri y3)], []⟩ : St)
def VC (k : Nat) : Nat → Int → Int → Int → Int → Option (Int × Int)
 | 0, _, _, _, _ => none
 | j + 1, y0, y1, y2, y3 =>
 bif y3 ≤ 2500 then
 if ((qd1 k y0 y3 y2).isSome) then
 bif (qid k y0 y3 y2).1 ≥ y1 then
 some (y3, 0)
 else
 VC k j y0 y1 y2 (qa .i64 (y3 + 1))
 else none
 else
 some (0, 32)
def qd0 (k : Nat) (a : Int) (b : Int) (d : Int) : Option (Int × Int) :=
 bif (decide (a < 1) || decide (a > 2500) || decide (b < 0) || decide (b > 17179869184) || decide (d < 1) || decide (d > 5000)) then
 some (0, 1)
 else
 VC k k a b d a
def qca := fun k a b d => (qd0 k a b d).getD (0, 0)
def qJX (k : Nat) : Ke := (97, mo 3, fun
 | [.r (.v (.int .i64 a)), .r (.v (.int .i64 b)), .r (.v (.int .i64 d))], [] => some (.one (qk3 (qca k a b d), []))
 | _, _ => none)
def quL : List (Nat × List Cmd) := [(4, [.autoB [0, 1, 2, 8] false []])]
abbrev qMn := EP Tryz.f97 0 qk3 nb
theorem qvm (k) : ∀ j, (∀ y0 y1 y2 y3, qMn 4 (qDx y0 y1 y2 y3) (VC k j y0 y1 y2 y3))
 | 0 => by intros; exact e0
 | j + 1 => by
  have ih := @qvm k j
  ·intro y0 y1 y2 y3 r h
   rw [VC] at h
   exact go (qA [qvR k]) [] quL [.autoB [6, 7] true []] (gS h (fun h => qv h qIY fun h => qu h fun h => gC h 4 (ih _ _ _ _ _)) fun h => gL h)
theorem qKR (k a b d r) (h : qd0 k a b d = some r): qyS a b d r := qO Tryz.f97 (go (qA [qvR k]) [] quL [.autoB [6, 7] true []] (qu h fun h => gC h 4 ((qvm k k) _ _ _ _ _)))
theorem qIX {k a b d} (h : (qd0 k a b d).isSome): qyS a b d (qca k a b d) := qJ h (qKR k a b d)
end
def w9 (c d p : Int) : Int := (3141592653 * ((d * d - c * c) * 250)).tdiv (1000000000 * p)
theorem qqM {c d : Int} (h0 : 0 ≤ c) (h1 : c ≤ d) : c * c ≤ d * d := Int.mul_le_mul h1 h1 h0 (by omega)
theorem qIu {c d : Int} (h0 : 1 ≤ c) (h1 : c ≤ d) (h2 : d ≤ 2500) : 0 ≤ c * c ∧ c * c ≤ d * d ∧ d * d ≤ 6250000 := by
 refine ⟨Int.mul_nonneg (by omega) (by omega), qqM (by omega) h1, ?_⟩
 have := qqM (c := d) (d := 2500) (by omega) h2
 omega
theorem qwK (k : Nat) {c d p : Int} (h0 : 1 ≤ c) (h1 : c ≤ d) (h2 : d ≤ 2500) (p0 : 1 ≤ p) (p1 : p ≤ 5000) : qiO k c d p = some (w9 c d p) ∧ 0 ≤ w9 c d p ∧ w9 c d p ≤ 9223372036854775807 := by
 obtain ⟨a, b, e⟩ := qIu h0 h1 h2
 have hn : 0 ≤ 3141592653 * ((d * d - c * c) * 250) ∧ 3141592653 * ((d * d - c * c) * 250) ≤ 4908738520312500000 := by omega
 have q0 : 0 ≤ w9 c d p := Int.tdiv_nonneg hn.1 (by omega)
 have q1 : w9 c d p ≤ 3141592653 * ((d * d - c * c) * 250) := by
  unfold w9
  rw [Int.tdiv_eq_ediv_of_nonneg hn.1]
  exact Int.ediv_le_self _ hn.1
 refine ⟨?_, q0, by omega⟩
 unfold qiO
 rw [qm (i := 1000000000 * p) (by omega) (by omega), qc (by omega), qm (i := d * d) (by omega) (by omega), qm (i := c * c) (by omega) (by omega), qm (i := d * d - c * c) (by omega) (by omega), qm (i := (d * d - c * c) * 250) (by omega) (by omega), qm (i := 3141592653 * ((d * d - c * c) * 250)) (by omega) (by omega)]
 show some (qa .i64 (w9 c d p)) = _
 rw [qm (by omega) (by omega)]
theorem qyv {c d e p : Int} (h0 : 1 ≤ c) (h1 : c ≤ d) (h2 : d ≤ e) (p0 : 1 ≤ p) : w9 c d p ≤ w9 c e p := by
 have a := qqM (c := c) (d := d) (by omega) h1
 have b := qqM (c := d) (d := e) (by omega) h2
 unfold w9
 rw [Int.tdiv_eq_ediv_of_nonneg (by omega), Int.tdiv_eq_ediv_of_nonneg (by omega)]
 exact Int.ediv_le_ediv (by omega) (by omega)
def qcp (c n p : Int) : Nat → Int → Int × Int
 | 0, _ => (0, 32)
 | j + 1, d => if w9 c d p ≥ n then (d, 0) else qcp c n p j (d + 1)
theorem ql1 {c n p : Int} : ∀ (j : Nat) (d : Int), (∀ q : Int, d ≤ q → q < d + j → ¬ w9 c q p ≥ n) → qcp c n p j d = (0, 32)
 | 0, _, _ => rfl
 | j + 1, d, h => by
  rw [qcp, qi (h d (by omega) (by omega))]
  exact ql1 j (d + 1) fun q h0 h1 => h q (by omega) (by omega)
theorem ql2 {c n p : Int} : ∀ (j : Nat) (d r : Int), d ≤ r → r < d + j → (∀ q : Int, d ≤ q → q < r → ¬ w9 c q p ≥ n) → w9 c r p ≥ n → qcp c n p j d = (r, 0)
 | 0, d, r, h0, h1, _, _ => by omega
 | j + 1, d, r, h0, h1, h2, h3 => by
  rw [qcp]
  by_cases e : d = r
  ·rw [e, qc h3]
  ·rw [qi (h2 d (V6 _) (by omega))]
   exact ql2 j (d + 1) r (by omega) (by omega) (fun q a b => h2 q (by omega) b) h3
def Xc (c n p : Int) : Int × Int := if c < 1 ∨ c > 2500 ∨ n < 0 ∨ n > 17179869184 ∨ p < 1 ∨ p > 5000 then (0, 1) else qcp c n p (2501 - c).toNat c
theorem qog (k : Nat) {c d p : Int} (h0 : 1 ≤ c) (h1 : c ≤ d) (h2 : d ≤ 2500) (p0 : 1 ≤ p) (p1 : p ≤ 5000) : qd1 k c d p = some (w9 c d p, 0) := by
 obtain ⟨a, b, e⟩ := qIu h0 h1 h2
 have hw := (qwK k h0 h1 h2 p0 p1).2
 have hl : qd3 k c d p = some 0 := by
  unfold qd3
  rw [qq (by omega : ¬ c < 1), qq (by omega : ¬ c > 2500), qq (by omega : ¬ d < 1), qq (by omega : ¬ d > 2500), qq (by omega : ¬ p < 1), qq (by omega : ¬ p > 5000), qq (by omega : ¬ d < c)]
  rfl
 have hv : qeN k c d p = 0 := by unfold qeN; rw [hl]; rfl
 unfold qd1
 rw [hl, hv, qd, qc rfl, bne_self_eq_false, qg, qm (i := 1000000000 * p) (by omega) (by omega), qc (by omega), qm (i := d * d) (by omega) (by omega), qm (i := c * c) (by omega) (by omega), qm (i := d * d - c * c) (by omega) (by omega), qm (i := 3141592653 * (d * d - c * c)) (by omega) (by omega), qm (i := 3141592653 * (d * d - c * c) * 250) (by omega) (by omega), show 3141592653 * (d * d - c * c) * 250 = 3141592653 * ((d * d - c * c) * 250) by omega]
 show some (qa .i64 (w9 c d p), (0 : Int)) = _
 rw [qm (by omega) (by omega)]
theorem qt2 (k : Nat) {c n p : Int} (h0 : 1 ≤ c) (p0 : 1 ≤ p) (p1 : p ≤ 5000) : ∀ (q j : Nat) (d : Int), d + q = 2501 → c ≤ d → q < j → VC k j c n p d = some (qcp c n p q d) := by
 intro q
 induction q with
 | zero =>
  intro j d hd hc hj
  obtain ⟨j, rfl⟩ := qW (by omega : 0 < j)
  rw [VC, qq (by omega : ¬ d ≤ 2500)]; rfl
 | succ q ih =>
  intro j d hd hc hj
  obtain ⟨j, rfl⟩ := qW (by omega : 0 < j)
  have hl := qog k (c := c) (d := d) (p := p) h0 hc (by omega) p0 p1
  have hv : qid k c d p = (w9 c d p, 0) := by unfold qid; rw [hl]; rfl
  rw [VC, qw (by omega : d ≤ 2500), qj, hl, hv, qd, qc rfl, qcp, qm (by omega) (by omega), ih j (d + 1) (by omega) (by omega) (by omega)]
  by_cases h : w9 c d p ≥ n
  ·rw [qw h, qj, qc h]
  ·rw [qq h, qg, qi h]
theorem qj3 (k : Nat) (hk : 3000 ≤ k) (c n p : Int) : qd0 k c n p = some (Xc c n p) := by
 unfold qd0 Xc
 by_cases h : c < 1 ∨ c > 2500 ∨ n < 0 ∨ n > 17179869184 ∨ p < 1 ∨ p > 5000
 ·rw [qc h]
  have : (decide (c < (1 : Int)) || decide (c > (2500 : Int)) || decide (n < (0 : Int)) || decide (n > (17179869184 : Int)) || decide (p < (1 : Int)) || decide (p > (5000 : Int))) = true := by
   simp only [qGc, decide_eq_true_iff]; omega
  rw [this]; rfl
 ·rw [qi h, qq (by omega), qq (by omega), qq (by omega), qq (by omega), qq (by omega), qq (by omega)]
  exact qt2 k (by omega) (by omega) (by omega) (2501 - c).toNat k c (by omega) (V6 _) (by omega)
theorem qt3 (k : Nat) (hk : 3000 ≤ k) (c n p : Int) : qca k c n p = Xc c n p := by
 unfold qca; rw [qj3 k hk]; rfl
theorem qIx (k : Nat) {c p : Int} (n : Int) (h0 : 1 ≤ c) (h1 : c ≤ 2500) (p0 : 1 ≤ p) (p1 : p ≤ 5000) {x : Int} (x0 : 0 ≤ x) (x1 : x < 2501 - c) : qiM k x c p n = some (decide (w9 c (c + x) p ≥ n)) := by
 have hw := (qwK k (c := c) (d := c + x) (p := p) h0 (by omega) (by omega) p0 p1).1
 have hv : qm5 k c (c + x) p = w9 c (c + x) p := by unfold qm5; rw [hw]; rfl
 unfold qiM
 rw [qm (by omega) (by omega), hw, hv, qd, qc rfl]
theorem qRw {a b : Int} (h0 : 0 ≤ a) (h1 : a ≤ b) (h2 : b ≤ 2501) : qa .i64 ((IntKind.u64.wrap (qa .i64 (a + b))).fdiv ((2 : Int) ^ min (ql (1 : Int)) IntKind.u64.bits)) = (a + b) / 2 := by
 have e : (2 : Int) ^ min (ql (1 : Int)) IntKind.u64.bits = 2 := by decide
 have u : IntKind.u64.wrap (a + b) = a + b := by
  show (a + b) % 18446744073709551616 = a + b
  exact Int.emod_eq_of_lt (by omega) (by omega)
 rw [qm (i := a + b) (by omega) (by omega), u, e, Int.fdiv_eq_ediv_of_nonneg _ (by decide), qm (by omega) (by omega)]
theorem qEB (k : Nat) {c p : Int} (n : Int) (h0 : 1 ≤ c) (hc : c ≤ 2500) (p0 : 1 ≤ p) (p1 : p ≤ 5000) (m : Int) (hm : m = 2501 - c) : ∀ (q j : Nat) (a b : Int), b - a ≤ q → q < j → 0 ≤ a → a ≤ b → b ≤ m → (∀ x : Int, 0 ≤ x → x < a → ¬ w9 c (c + x) p ≥ n) → (b < m → w9 c (c + b) p ≥ n) →
  ∃ r : Int, Wt k m c p n j a b = some r ∧ 0 ≤ r ∧ r ≤ m ∧ (∀ x : Int, 0 ≤ x → x < r → ¬ w9 c (c + x) p ≥ n) ∧ (r < m → w9 c (c + r) p ≥ n) := by
 intro q
 induction q with
 | zero =>
  intro j a b hq hj a0 ab bm lo hi
  obtain ⟨j, rfl⟩ := qW (by omega : 0 < j)
  obtain rfl : a = b := by omega
  refine ⟨a, ?_, a0, bm, lo, hi⟩
  rw [Wt, qq (by omega : ¬ a < a)]; rfl
 | succ q ih =>
  intro j a b hq hj a0 ab bm lo hi
  obtain ⟨j, rfl⟩ := qW (by omega : 0 < j)
  by_cases h : a < b
  ·have hmid := qRw a0 ab (by omega)
   have x0 : a ≤ (a + b) / 2 ∧ (a + b) / 2 < b := by omega
   have hd := qIx k n h0 hc p0 p1 (x := (a + b) / 2) (by omega) (by omega)
   have hv : qjC k ((a + b) / 2) c p n = decide (w9 c (c + (a + b) / 2) p ≥ n) := by unfold qjC; rw [hd]; rfl
   rw [Wt, qw h, qj]
   simp only [hmid]
   rw [hd, hv, qd, qc rfl]
   by_cases hp : w9 c (c + (a + b) / 2) p ≥ n
   ·rw [qw hp, ve, qg]
    exact ih j a ((a + b) / 2) (by omega) (by omega) a0 (by omega) (by omega) lo fun _ => hp
   ·rw [qq hp, qS1, qj, qm (by omega) (by omega)]
    refine ih j ((a + b) / 2 + 1) b (by omega) (by omega) (by omega) (by omega) bm (fun x y0 y1 => ?_) hi
    have := qyv (c := c) (d := c + x) (e := c + (a + b) / 2) (p := p) h0 (by omega) (by omega) p0
    omega
  ·obtain rfl : a = b := by omega
   refine ⟨a, ?_, a0, bm, lo, hi⟩
   rw [Wt, qq h]; rfl
theorem qo1 (k : Nat) (hk : 3000 ≤ k) (c n p : Int) : qiL k c n p = some (Xc c n p) := by
 have hf : qme k c p = some (decide (c ≥ 1) && decide (c ≤ 2500) && decide (p ≥ 1) && decide (p ≤ 5000)) := rfl
 have hv : qqS k c p = (decide (c ≥ 1) && decide (c ≤ 2500) && decide (p ≥ 1) && decide (p ≤ 5000)) := rfl
 unfold qiL Xc
 rw [hf, hv, qd, qc rfl]
 by_cases h : c < 1 ∨ c > 2500 ∨ n < 0 ∨ n > 17179869184 ∨ p < 1 ∨ p > 5000
 ·rw [qc h]
  have : (!(decide (c ≥ 1) && decide (c ≤ 2500) && decide (p ≥ 1) && decide (p ≤ 5000)) || decide (n < (0 : Int)) || decide (n > (17179869184 : Int))) = true := by
   cases h1 : (decide (c ≥ 1) && decide (c ≤ 2500) && decide (p ≥ 1) && decide (p ≤ 5000))
   ·rfl
   ·simp only [qh, decide_eq_true_iff] at h1
    simp only [qGc, decide_eq_true_iff]; omega
  rw [this]; rfl
 ·rw [qi h, qw (by omega : c ≥ 1), qw (by omega : c ≤ 2500), qw (by omega : p ≥ 1), qw (by omega : p ≤ 5000), qq (by omega : ¬ n < 0), qq (by omega : ¬ n > 17179869184)]
  rw [show (!(true && true && true && true) || false || false) = false from rfl, qg, qm (i := 2500 - c) (by omega) (by omega), qm (i := 2500 - c + 1) (by omega) (by omega), show 2500 - c + 1 = 2501 - c by omega]
  obtain ⟨r, e, r0, r1, lo, hi⟩ := qEB k n (c := c) (p := p) (by omega) (by omega) (by omega) (by omega) (2501 - c) rfl (2501 - c).toNat k 0 (2501 - c) (by omega) (by omega) (V6 _) (by omega) (V6 _) (fun x a b => by omega) (fun h => by omega)
  have e : qhl k (2501 - c) c p n = some r := e
  have ev : qch k (2501 - c) c p n = r := by unfold qch; rw [e]; rfl
  rw [e, ev, qd, qc rfl, qm (by omega) (by omega)]
  by_cases hr : r < 2501 - c
  ·rw [qq (by omega : ¬ c + r > 2500), qg, ql2 (2501 - c).toNat c (c + r) (by omega) (by omega) (fun x a b => by
    have := lo (x - c) (by omega) (by omega)
    rw [show c + (x - c) = x by omega] at this; exact this) (hi hr)]
  ·rw [qw (by omega : c + r > 2500), qj, ql1 (2501 - c).toNat c fun x a b => by
    have := lo (x - c) (by omega) (by omega)
    rw [show c + (x - c) = x by omega] at this; exact this]
theorem qBq (k : Nat) (hk : 3000 ≤ k) (c n p : Int) : qf4 k c n p = Xc c n p := by
 unfold qf4; rw [qo1 k hk]; rfl
end Go.AM
namespace Go.AM
open Go Go.Proofs
noncomputable section
def qk0 (r : Int × Bool × Int) : AV := .tup [ri r.1, rb r.2.1, ri r.2.2]
abbrev qyN (a : List T2.T) (b : T21.T) (r : Int × Bool × Int) : Prop := CC Tryz.prog 96 [ro T2 a, .agg (qB (qr T21 b))] [] (qk0 r) (nb r)
def qDt := fun y0 y1 y2 y3 => (⟨qM 55 [(7, ro T2 y0), (9, ri y1), (10, rb y2), (11, ri y3)], []⟩ : St)
def Zl (k : Nat) : Nat → List T2.T → Int → Bool → Int → Option (Int × Bool × Int)
 | 0, _, _, _, _ => none
 | j + 1, y0, y1, y2, y3 =>
 bif y3 < y0.length then
 if (0 ≤ y3) ∧ (y3 < y0.length) ∧ ((0 : Int) ≤ (0 : Int)) ∧ ((0 : Int) < (↑y0.length : Int)) then
 bif ((y0.getD y3.toNat T2.dflt).2.2.2.1 != (y0.getD (ql (0 : Int)) T2.dflt).2.2.2.1) then
 if (y2 = true → 0 ≤ y3) ∧ (y2 = true → y3 < y0.length) then
 Zl k j y0 (-1) (y2 && (y0.getD y3.toNat T2.dflt).2.2.1 == 1) (qa .i64 (y3 + 1))
 else none
 else
 if (y2 = true → 0 ≤ y3) ∧ (y2 = true → y3 < y0.length) then
 Zl k j y0 y1 (y2 && (y0.getD y3.toNat T2.dflt).2.2.1 == 1) (qa .i64 (y3 + 1))
 else none
 else none
 else
 some (y1, y2, 0)
def Y1 (k : Nat) (a : List T2.T) (b : T21.T) : Option (Int × Bool × Int) :=
 if ((qdX k a b).isSome) then
 bif ((Vo k a b).2 != (0 : Int)) then
 some (0, false, (Vo k a b).2)
 else
 bif ((↑ (Vo k a b).1.length : Int) == (0 : Int)) then
 some (-1, false, 0)
 else
 if ((0 : Int) ≤ (0 : Int)) ∧ ((0 : Int) < (↑ (Vo k a b).1.length : Int)) then
 Zl k k ((Vo k a b).1) (((Vo k a b).1.getD (ql 0) T2.dflt).2.2.2.1) true 0
 else none
 else none
def Vn := fun k a b => (Y1 k a b).getD (0, false, 0)
def qJV (k : Nat) : Ke := (96, mo 2, fun
 | [.r (.ro f d), .agg e], [] => (qC f T2 d).bind fun a => (qX [] T21 e).bind fun b => some (.one (qk0 (Vn k a b), []))
 | _, _ => none)
def quH : List (Nat × List Cmd) := [(8, [.autoB [7, 9, 10, 11] false []])]
abbrev qMj := EP Tryz.f96 0 qk0 nb
theorem qvi (k) : ∀ j, (∀ y0 y1 y2 y3, qMj 8 (qDt y0 y1 y2 y3) (Zl k j y0 y1 y2 y3))
 | 0 => by intros; exact e0
 | j + 1 => by
  have ih := @qvi k j
  ·intro y0 y1 y2 y3 r h
   rw [Zl] at h
   exact go (qA [qvP k]) [] quH [.autoB [4, 5, 6] true []] (gS h (fun h => gN h YW fun h => gS h (fun h => qU h fun h => gC h 8 (ih _ _ _ _ _)) fun h => qU h fun h => gC h 8 (ih _ _ _ _ _)) fun h => gL h)
theorem qKM (k a b r) (h : Y1 k a b = some r): qyN a b r := qO Tryz.f96 (go (qA [qvP k]) [] quH [.autoB [4, 5, 6] true []] (qv h qIU fun h => qu h fun h => qu h fun h => qU h fun h => gC h 8 ((qvi k k) _ _ _ _ _)))
theorem qIT {k a b} (h : (Y1 k a b).isSome): qyN a b (Vn k a b) := qJ h (qKM k a b)
def qsZ (r : T4.T × Int) : AV := .tup [.agg (qB (qr T4 r.1)), ri r.2]
abbrev qqV (a : List T5.T) (b : T23.T) (d : Int) (r : T4.T × Int) : Prop := CC Tryz.prog 94 [ro T5 a, .agg (qB (qr T23 b)), ri d] [] (qsZ r) (nb r)
def Qq (g : List T5.T → T23.T → Int → Option (T4.T × Int)) (a : List T5.T) (b : T23.T) (d : Int) : (T4.T × Int) := (g a b d).getD ((T4).dflt, 0)
def wR : Nat → List T5.T → T23.T → Int → Option (T4.T × Int)
 | 0, _, _, _ => none
 | k + 1, a, b, d =>
 if ((Y3 k a b d).isSome) then
 bif ((vG k a b d).2.2 != (0 : Int)) then
 some ((0, (0, (false, []))), (vG k a b d).2.2)
 else
 bif (d == (0 : Int)) then
 bif (vG k a b d).2.1 > (0 : Int) then
 some ((0, (b.1, (false, [(0, (vG k a b d).2.1, false)]))), 0)
 else
 some ((0, (b.1, (false, []))), 0)
 else
 if ((Vf k a (↑a.length : Int) d).isSome) ∧ ((0 : Int) ≤ q8 k a (↑a.length : Int) d) ∧ (q8 k a (↑a.length : Int) d < (↑a.length : Int)) then
 if ((wR k a b (a.getD (ql (q8 k a (↑a.length : Int) d)) T5.dflt).2.1).isSome) then
 bif ((Qq (wR k) a b (a.getD (ql (q8 k a (↑a.length : Int) d)) T5.dflt).2.1).2 != (0 : Int)) then
 some ((0, (0, (false, []))), (Qq (wR k) a b (a.getD (ql (q8 k a (↑a.length : Int) d)) T5.dflt).2.1).2)
 else
 bif (Qq (wR k) a b (a.getD (ql (q8 k a (↑a.length : Int) d)) T5.dflt).2.1).1.2.2.1 then
 if ((qfw k (a.getD (ql (q8 k a (↑a.length : Int) d)) T5.dflt).2.2.2.2.2 (Qq (wR k) a b (a.getD (ql (q8 k a (↑a.length : Int) d)) T5.dflt).2.1).1.2.2.2).isSome) then
 bif ((YR k (a.getD (ql (q8 k a (↑a.length : Int) d)) T5.dflt).2.2.2.2.2 (Qq (wR k) a b (a.getD (ql (q8 k a (↑a.length : Int) d)) T5.dflt).2.1).1.2.2.2).2 != (0 : Int)) then
 some ((0, (0, (false, []))), (YR k (a.getD (ql (q8 k a (↑a.length : Int) d)) T5.dflt).2.2.2.2.2 (Qq (wR k) a b (a.getD (ql (q8 k a (↑a.length : Int) d)) T5.dflt).2.1).1.2.2.2).2)
 else
 some ((qa .i64 (qa .i64 (qa .i64 ((Qq (wR k) a b (a.getD (ql (q8 k a (↑a.length : Int) d)) T5.dflt).2.1).1.1 + (Qq (wR k) a b (a.getD (ql (q8 k a (↑a.length : Int) d)) T5.dflt).2.1).1.2.1) - (a.getD (ql (q8 k a (↑a.length : Int) d)) T5.dflt).2.2.1) - (a.getD (ql (q8 k a (↑a.length : Int) d)) T5.dflt).2.2.2.1), ((a.getD (ql (q8 k a (↑a.length : Int) d)) T5.dflt).2.2.2.1, (! (a.getD (ql (q8 k a (↑a.length : Int) d)) T5.dflt).2.2.2.2.1, (YR k (a.getD (ql (q8 k a (↑a.length : Int) d)) T5.dflt).2.2.2.2.2 (Qq (wR k) a b (a.getD (ql (q8 k a (↑a.length : Int) d)) T5.dflt).2.1).1.2.2.2).1))), 0)
 else none
 else
 if ((qfw k (a.getD (ql (q8 k a (↑a.length : Int) d)) T5.dflt).2.2.2.2.2 (Qq (wR k) a b (a.getD (ql (q8 k a (↑a.length : Int) d)) T5.dflt).2.1).1.2.2.2).isSome) then
 bif ((YR k (a.getD (ql (q8 k a (↑a.length : Int) d)) T5.dflt).2.2.2.2.2 (Qq (wR k) a b (a.getD (ql (q8 k a (↑a.length : Int) d)) T5.dflt).2.1).1.2.2.2).2 != (0 : Int)) then
 some ((0, (0, (false, []))), (YR k (a.getD (ql (q8 k a (↑a.length : Int) d)) T5.dflt).2.2.2.2.2 (Qq (wR k) a b (a.getD (ql (q8 k a (↑a.length : Int) d)) T5.dflt).2.1).1.2.2.2).2)
 else
 some ((qa .i64 ((Qq (wR k) a b (a.getD (ql (q8 k a (↑a.length : Int) d)) T5.dflt).2.1).1.1 + (a.getD (ql (q8 k a (↑a.length : Int) d)) T5.dflt).2.2.1), ((a.getD (ql (q8 k a (↑a.length : Int) d)) T5.dflt).2.2.2.1, ((a.getD (ql (q8 k a (↑a.length : Int) d)) T5.dflt).2.2.2.2.1, (YR k (a.getD (ql (q8 k a (↑a.length : Int) d)) T5.dflt).2.2.2.2.2 (Qq (wR k) a b (a.getD (ql (q8 k a (↑a.length : Int) d)) T5.dflt).2.1).1.2.2.2).1))), 0)
 else none
 else none
 else none
 else none
def vY := fun k a b d => (wR k a b d).getD ((T4).dflt, 0)
def qnW (k : Nat) : Ke := (94, mo 3, fun
 | [.r (.ro i e), .agg f, .r (.v (.int .i64 d))], [] => (qC i T5 e).bind fun a => (qX [] T23 f).bind fun b => some (.one (qsZ (vY k a b d), []))
 | _, _ => none)
theorem qv7 : ∀ (k : Nat) (a : List T5.T) (b : T23.T) (d : Int) (r : T4.T × Int), wR k a b d = some r → qqV a b d r
 | 0, a, b, d, r, h => by simp [wR] at h
 | k + 1, a, b, d, r, h => by
  have ih : ∀ {a : List T5.T} {b : T23.T} {d : Int}, (wR k a b d).isSome = true → qqV a b d (vY k a b d) := fun {a} {b} {d} h => qJ h (qv7 k a b d)
  refine CC.of (fn := Tryz.f94) (by kernel_rfl) (by kernel_rfl) (by kernel_rfl) (by kernel_rfl) ?_
  rw [wR] at h
  exact go (qA [qji k, qvS k, qOG k, qnW k]) [] [] [.frz 6 true T4, .autoB [6, 7] true []] (qv h qus fun h => qu h fun h => gS h (fun h => qu h fun h => gL h) fun h => gN h (fun q => qf (qiw q.1) (qf q.2.1 (qf q.2.2 qP))) fun h => qv h (fun q => ih q) fun h => qu h fun h => gS h (fun h => qv h qAD fun h => qu h fun h => gL h) fun h => qv h qAD fun h => qu h fun h => gL h)
theorem qur {k a b d} (h : (wR k a b d).isSome): qqV a b d (vY k a b d) := qJ h (qv7 k a b d)
end
def qaF (W L : Int) : Ch := (0, W, false, if L > 0 then [(0, L, false)] else [])
def qkm (r : Ro) (o : Ch × Int) : Ch × Int :=
 if o.2 ≠ 0 then ((0, 0, false, []), o.2)
 else if (V9 r.2.2.2.2.2 o.1.2.2.2).2 ≠ 0 then ((0, 0, false, []), (V9 r.2.2.2.2.2 o.1.2.2.2).2)
 else (((if o.1.2.2.1 = true then qa .i64 (qa .i64 (qa .i64 (o.1.1 + o.1.2.1) - r.2.2.1) - r.2.2.2.1) else qa .i64 (o.1.1 + r.2.2.1)),
  r.2.2.2.1, !(o.1.2.2.1 == r.2.2.2.2.1), (V9 r.2.2.2.2.2 o.1.2.2.2).1), 0)
def W1 (l : List Ro) (W L : Int) : Nat → Int → Ch × Int
 | 0, _ => (qaF W L, 0)
 | n + 1, id => if id = 0 then (qaF W L, 0) else match look l id with
  | none => (qaF W L, 0)
  | some r => qkm r (W1 l W L n r.2.1)
theorem Anc.cases {l : List Ro} {n : Nat} {id : Int} (h : Anc l n id) (h0 : id ≠ 0) : ∃ m r, n = m + 1 ∧ look l id = some r ∧ Anc l m r.2.1 := by
 cases h with
 | root => exact absurd rfl h0
 | step m _ r _ e a => exact ⟨m, r, rfl, e, a⟩
theorem qJC (W L : Int) (l : List Ro) (M : List (Int × Int)) (hM : v8 M l) : ∀ (n : Nat) (id : Int) (k : Nat), Anc l n id → n + 1000 < k → zJ k W L l M id = some (W1 l W L n id) := by
 have hbase : ∀ k, zJ (k + 1) W L l M 0 = some (qaF W L, 0) := fun k => by
  rw [zJ]
  show (bif decide (L > 0) then some (((0 : Int), (W, (false, [((0 : Int), L, false)]))), (0 : Int)) else some (((0 : Int), (W, (false, []))), (0 : Int))) = _
  unfold qaF
  by_cases h : L > 0
  ·rw [qw h, qc h]; rfl
  ·rw [qq h, qi h]; rfl
 intro n
 induction n with
 | zero =>
  intro id k ha hk
  obtain ⟨k, rfl⟩ := qW (by omega : 0 < k)
  by_cases h0 : id = 0
  ·rw [h0, hbase]; rfl
  ·obtain ⟨m, _, e, _⟩ := ha.cases h0
   cases e
 | succ n ih =>
  intro id k ha hk
  obtain ⟨k, rfl⟩ := qW (by omega : 0 < k)
  by_cases h0 : id = 0
  ·rw [h0, hbase]
   unfold W1
   rw [qc rfl]
  ·obtain ⟨m, r, em, e, a⟩ := ha.cases h0
   cases em
   have hf := ih r.2.1 k a (by omega)
   obtain ⟨x, e1, e2, e3⟩ := (hM id).some e
   have hx : (x : Int) < (l.length : Int) := by omega
   rw [zJ]
   unfold W1 W8
   rw [qi h0, beq_false_of_ne h0, qg, e, e1, qMF, qc ⟨by omega, hx⟩, qe, e3, hf, qd, qc rfl, qMF, qgl k (by omega), qpW k (by omega)]
   show _ = some (qkm r (W1 l W L n r.2.1))
   generalize W1 l W L n r.2.1 = o
   unfold qkm
   by_cases h1 : o.2 = 0
   ·have g1 : ¬ (o.2 ≠ 0) := fun h => h h1
    rw [show (o.2 != 0) = false by simp [h1], qg, qd, qc rfl]
    rw [qi g1]
    generalize V9 r.2.2.2.2.2 o.1.2.2.2 = c
    by_cases h2 : c.2 = 0
    ·have g2 : ¬ (c.2 ≠ 0) := fun h => h h2
     rw [show (c.2 != 0) = false by simp [h2], qg, qi g2]
     cases h3 : o.1.2.2.1
     ·rfl
     ·rfl
    ·rw [bne_iff_ne.2 h2, qc h2]; rfl
   ·rw [bne_iff_ne.2 h1]
    rw [qc h1]; rfl
def qQ (l : List Ro) (W L id : Int) : Ch × Int := if vp l W L id ≠ 0 then ((0, 0, false, []), vp l W L id) else W1 l W L 512 id
theorem qhn (k : Nat) (hk : 300000 ≤ k) (l : List Ro) (web : Int × Int) (id : Int) : qfm k l web id = some (qQ l web.1 web.2 id) := by
 obtain ⟨h1, h2⟩ := qrS k hk l web id
 unfold qfm XJ wC YK qQ
 by_cases h : vp l web.1 web.2 id = 0
 ·obtain ⟨M, m1, m2, e⟩ := h2 h
  obtain ⟨reg, kn⟩ := Zi.1 h
  have hi : ¬ (vp l web.1 web.2 id ≠ 0) := fun h' => h' h
  have hc := qJC web.1 web.2 l M m1 512 id k (reg.anc kn) (by omega)
  rw [e, qi hi]
  show (if (zJ k web.1 web.2 l M id).isSome = true then some ((qaZ k web.1 web.2 l M id).1, (qaZ k web.1 web.2 l M id).2) else none) = _
  unfold qaZ
  rw [hc]; rfl
 ·rw [h1 h, qc h]
  show (bif (vp l web.1 web.2 id != 0) then _ else _) = _
  rw [bne_iff_ne.2 h]; rfl
theorem qo3 (k : Nat) (hk : 300000 ≤ k) (l : List Ro) (web : Int × Int) (id : Int) : ze k l web id = qQ l web.1 web.2 id := by
 unfold ze; rw [qhn k hk l web id]; rfl
theorem qCV (l : List Ro) (web : Int × Int) (reg : Reg l web.1 web.2) : ∀ (n : Nat) (id : Int) (k : Nat), Anc l n id → n + 300001 < k → (id = 0 ∨ ∃ q, look l id = some q) → wR k l web id = some (W1 l web.1 web.2 n id) := by
 obtain ⟨W, L⟩ := web
 have hn := reg.num
 have hbase : ∀ k, 300000 ≤ k → wR (k + 1) l (W, L) 0 = some (qaF W L, 0) := fun k hk => by
  have hz : vp l (W, L).1 (W, L).2 0 = 0 := Zi.2 ⟨reg, .inl rfl⟩
  have hs : z8 l (W, L).1 (W, L).2 0 = (W, L, 0) := by unfold z8 wh; rw [qi (fun h => h hz), qc rfl]
  rw [wR, ZI k hk, XB k hk, hs, qd, qc rfl]
  show (bif decide (L > 0) then some (((0 : Int), (W, (false, [((0 : Int), L, false)]))), (0 : Int)) else some (((0 : Int), (W, (false, []))), (0 : Int))) = _
  unfold qaF
  by_cases h : L > 0
  ·rw [qw h, qc h]; rfl
  ·rw [qq h, qi h]; rfl
 intro n
 induction n with
 | zero =>
  intro id k ha hk kn
  obtain ⟨k, rfl⟩ := qW (by omega : 0 < k)
  by_cases h0 : id = 0
  ·rw [h0, hbase k (by omega)]; rfl
  ·obtain ⟨m, _, e, _⟩ := ha.cases h0
   cases e
 | succ n ih =>
  intro id k ha hk kn
  obtain ⟨k, rfl⟩ := qW (by omega : 0 < k)
  by_cases h0 : id = 0
  ·rw [h0, hbase k (by omega)]
   unfold W1
   rw [qc rfl]
  ·obtain ⟨m, r, em, e, a⟩ := ha.cases h0
   cases em
   have ro := reg.ok.ro r (zy e).1
   have hf := ih r.2.1 k a (by omega) ro.parent
   obtain ⟨o, o1, o2, o3⟩ := qsL k l id (by omega) (by omega)
   obtain ⟨x, e1, e2, e3⟩ := o3.some e
   have hx : (x : Int) < (l.length : Int) := by omega
   have hz : vp l (W, L).1 (W, L).2 id = 0 := Zi.2 ⟨reg, kn⟩
   have hs : (z8 l (W, L).1 (W, L).2 id).2.2 = 0 := by unfold z8; rw [qi (fun h => h hz)]
   rw [wR, ZI k (by omega), XB k (by omega), hs, qd, qc rfl]
   unfold W1 Qq
   show (bif (id == 0) then _ else _) = _
   rw [qi h0, beq_false_of_ne h0, qg, e, o1, o2, e1, qMF, qc ⟨rfl, by omega, hx⟩, qe, e3, hf, qd, qc rfl, qMF, qcS k (by omega), qmR k (by omega)]
   show _ = some (qkm r (W1 l W L n r.2.1))
   generalize W1 l W L n r.2.1 = o
   unfold qkm
   by_cases h1 : o.2 = 0
   ·have g1 : ¬ (o.2 ≠ 0) := fun h => h h1
    rw [show (o.2 != 0) = false by simp [h1], qg, qd, qc rfl, qc rfl, qi g1]
    generalize V9 r.2.2.2.2.2 o.1.2.2.2 = c
    by_cases h2 : c.2 = 0
    ·have g2 : ¬ (c.2 ≠ 0) := fun h => h h2
     rw [show (c.2 != 0) = false by simp [h2], qg, qg, qi g2]
     cases h3 : o.1.2.2.1 <;> cases h4 : r.2.2.2.2.1 <;> rfl
    ·rw [bne_iff_ne.2 h2, qc h2]
     cases h3 : o.1.2.2.1 <;> rfl
   ·rw [bne_iff_ne.2 h1, qc h1]; rfl
theorem qdC (k : Nat) (hk : 301000 ≤ k) (l : List Ro) (web : Int × Int) (id : Int) : wR k l web id = some (qQ l web.1 web.2 id) := by
 unfold qQ
 by_cases h : vp l web.1 web.2 id = 0
 ·obtain ⟨reg, kn⟩ := Zi.1 h
  rw [qi (fun h' : vp l web.1 web.2 id ≠ 0 => h' h)]
  exact qCV l web reg 512 id k (reg.anc kn) (by omega) kn
 ·obtain ⟨k, rfl⟩ := qW (by omega : 0 < k)
  rw [qc h, wR, ZI k (by omega), XB k (by omega), qd, qc rfl]
  unfold z8
  rw [qc h]
  show (bif (vp l web.1 web.2 id != 0) then _ else _) = _
  rw [bne_iff_ne.2 h]; rfl
theorem qj4 (k : Nat) (hk : 301000 ≤ k) (l : List Ro) (web : Int × Int) (id : Int) : vY k l web id = qQ l web.1 web.2 id := by
 unfold vY; rw [qdC k hk l web id]; rfl
end Go.AM
namespace Go.AM
open Go
structure PtB (p : Pt) : Prop where
 a0 : 0 ≤ p.2.1
 a1 : p.2.1 ≤ 12000
 b0 : 0 ≤ p.2.2
 b1 : p.2.2 ≤ 17179869184
end Go.AM
namespace Go.AM
open Go Go.Proofs
def qnf (c : Ch) (x : Int) : Int := if c.2.2.1 = true then c.1 + c.2.1 - 1 - x else c.1 + x
theorem qim {l : List Ro} {p : Pt} (h : p.1 = 0) (n : Nat) : qga l n p = p := by
 cases n with
 | zero => rfl
 | succ n => unfold qga; rw [qc h]
theorem qpK {l : List Ro} {p : Pt} {r : Ro} (h0 : p.1 ≠ 0) (e : look l p.1 = some r) (n : Nat) : qga l (n + 1) p = qga l n (qaf r p) := by
 rw [qga, qi h0, e]
structure CutIn (l : List Ro) (W L id : Int) (c : Ch) (n : Nat) : Prop where
 left : 0 ≤ c.1
 right : c.1 + c.2.1 ≤ W
 width : c.2.1 = (wh l W L id).1
 chk : Chk c.2.2.2
 len : qp c.2.2.2 = (wh l W L id).2
 web : ∀ p : Pt, p.1 = id → On l W L p → qga l n p = (0, qnf c p.2.1, q9 c.2.2.2 p.2.2)
theorem quc {l : List Ro} {W L : Int} (reg : Reg l W L) (n : Nat) : CutIn l W L 0 (qaF W L) n := by
 have hw := reg.w
 have hl := reg.len
 have hs : wh l W L 0 = (W, L) := by unfold wh; rw [qc rfl]
 have hb : (qaF W L) = (0, W, false, if L > 0 then [(0, L, false)] else []) := rfl
 refine ⟨V6 _, by rw [hb]; show (0 : Int) + W ≤ W; omega, by rw [hs]; rfl, ?_, ?_, ?_⟩
 ·rw [hb]
  show Chk (if L > 0 then [(0, L, false)] else [])
  by_cases h : L > 0
  ·rw [qc h]
   exact ⟨by simp, ⟨⟨by show 1 ≤ L; omega, by show L ≤ _; omega, by show (0 : Int) ≤ 0; omega, by show (0 : Int) < _; omega, fun h => (by cases h), fun _ => by show (0 : Int) + L ≤ _; omega⟩, trivial⟩, by simp only [qp]; omega⟩
  ·rw [qi h]
   exact ⟨by simp, trivial, by simp only [qp]; omega⟩
 ·rw [hb, hs]
  show qp (if L > 0 then [(0, L, false)] else []) = L
  by_cases h : L > 0
  ·rw [qc h]; simp only [qp]; omega
  ·rw [qi h]; simp only [qp]; omega
 ·intro p h0 on
  obtain ⟨a0, a1, b0, b1⟩ := on
  rw [h0, hs] at a1 b1
  have b1 : p.2.2 < L := b1
  rw [qim h0, hb]
  show p = (0, qnf (0, W, false, _) p.2.1, q9 (if L > 0 then [(0, L, false)] else []) p.2.2)
  rw [qc (by omega)]
  unfold q9 qnf wd
  rw [qc b1, qi (fun h => (by cases h)), qi (fun h => (by cases h))]
  show p = ((0 : Int), (0 : Int) + p.2.1, (0 : Int) + p.2.2)
  obtain ⟨p1, p2, p3⟩ := p
  have h0 : p1 = 0 := h0
  rw [h0, Int.zero_add, Int.zero_add]
theorem qJy {l : List Ro} {W L : Int} (reg : Reg l W L) : ∀ (n : Nat) (id : Int) (c : Ch), Anc l n id → W1 l W L n id = (c, 0) → CutIn l W L id c n := by
 intro n
 have hw := reg.w
 induction n with
 | zero =>
  intro id c ha hc
  by_cases h0 : id = 0
  ·cases hc; rw [h0]; exact quc reg 0
  ·obtain ⟨_, _, e, _⟩ := ha.cases h0
   cases e
 | succ n ih =>
  intro id c ha hc
  by_cases h0 : id = 0
  ·unfold W1 at hc
   rw [qc h0] at hc
   cases hc; rw [h0]; exact quc reg _
  ·obtain ⟨k, r, ek, e, a⟩ := ha.cases h0
   cases ek
   have ro := reg.ok.ro r (zy e).1
   obtain ⟨c1, c2, c3, c4, c5, c6, c7⟩ := ro.cut
   unfold W1 at hc
   rw [qi h0, e] at hc
   have hc : qkm r (W1 l W L n r.2.1) = (c, 0) := hc
   obtain ⟨oc, oe⟩ : ∃ oc, W1 l W L n r.2.1 = oc := ⟨_, rfl⟩
   rw [oe] at hc
   unfold qkm at hc
   by_cases h1 : oc.2 = 0
   ·rw [qi (fun h : oc.2 ≠ 0 => h h1)] at hc
    obtain ⟨i1, i2, i3, i4, i5, i6⟩ := ih r.2.1 oc.1 a (by rw [oe, ← h1])
    obtain ⟨cm, ce⟩ : ∃ cm, V9 r.2.2.2.2.2 oc.1.2.2.2 = cm := ⟨_, rfl⟩
    rw [ce] at hc
    by_cases h2 : cm.2 = 0
    ·rw [qi (fun h : cm.2 ≠ 0 => h h2)] at hc
     obtain ⟨_, _, _, k1, k2, k3⟩ := qAF (m := cm.1) (by rw [ce, ← h2])
     have hs := reg.small n r.2.1 a
     rw [qm (i := oc.1.1 + oc.1.2.1) (by omega) (by omega), qm (i := oc.1.1 + oc.1.2.1 - r.2.2.1) (by omega) (by omega), qm (i := oc.1.1 + oc.1.2.1 - r.2.2.1 - r.2.2.2.1) (by omega) (by omega), qm (i := oc.1.1 + r.2.2.1) (by omega) (by omega)] at hc
     have hc1 := congrArg Prod.fst hc
     have hc1 : ((if oc.1.2.2.1 = true then oc.1.1 + oc.1.2.1 - r.2.2.1 - r.2.2.2.1 else oc.1.1 + r.2.2.1), r.2.2.2.1, !(oc.1.2.2.1 == r.2.2.2.2.1), cm.1) = c := hc1
     subst hc1
     have hsz := qDk (W := W) (L := L) h0 e
     refine ⟨?_, ?_, ?_, k1, ?_, ?_⟩
     ·show 0 ≤ (if oc.1.2.2.1 = true then _ else _ : Int)
      split <;> omega
     ·show (if oc.1.2.2.1 = true then _ else _ : Int) + r.2.2.2.1 ≤ W
      split <;> omega
     ·rw [hsz]
     ·rw [hsz]; exact k2
     ·intro p hp on
      have on2 := on.place (by rw [hp]; exact h0) (by rw [hp]; exact e) ro
      rw [qpK (by rw [hp]; exact h0) (by rw [hp]; exact e), i6 (qaf r p) rfl on2]
      obtain ⟨a0, a1, b0, b1⟩ := on
      rw [hp, hsz] at a1 b1
      have b1 : p.2.2 < qp r.2.2.2.2.2 := b1
      have e3 : q9 oc.1.2.2.2 (qaf r p).2.2 = q9 cm.1 p.2.2 := (k3 p.2.2 b0 b1).symm
      rw [e3]
      have e4 : qnf oc.1 (qaf r p).2.1 = qnf ((if oc.1.2.2.1 = true then oc.1.1 + oc.1.2.1 - r.2.2.1 - r.2.2.2.1 else oc.1.1 + r.2.2.1), r.2.2.2.1, !(oc.1.2.2.1 == r.2.2.2.2.1), cm.1) p.2.1 := by
       unfold qnf qaf
       cases oc.1.2.2.1 <;> cases r.2.2.2.2.1 <;> simp <;> omega
      rw [e4]
    ·rw [qc h2] at hc
     exact absurd (congrArg Prod.snd hc) h2
   ·rw [qc h1] at hc
    exact absurd (congrArg Prod.snd hc) h1
def vI (P : Int → Bool) : Nat → Nat
 | 0 => 0
 | n + 1 => vI P n + (if P (n : Int) = true then 1 else 0)
theorem qg3 {P Q : Int → Bool} : ∀ n : Nat, (∀ x : Int, 0 ≤ x → x < n → P x = Q x) → vI P n = vI Q n
 | 0, _ => rfl
 | n + 1, h => by
  unfold vI
  rw [qg3 n (fun x h0 h1 => h x h0 (by omega)), h n (by omega) (by omega)]
theorem qrL (P Q : Int → Bool) : ∀ n, vI (fun x => P x || Q x) n + vI (fun x => P x && Q x) n = vI P n + vI Q n
 | 0 => rfl
 | n + 1 => by
  have := qrL P Q n
  unfold vI
  cases h1 : P (n : Int) <;> cases h2 : Q (n : Int) <;> simp only [qS2, Bool.or_false, Bool.and_true, XT, qE, if_true, if_false] <;> omega
theorem V0 {P : Int → Bool} : ∀ n : Nat, (∀ x : Int, 0 ≤ x → x < n → P x = false) → vI P n = 0
 | 0, _ => rfl
 | n + 1, h => by
  unfold vI
  rw [V0 n (fun x h0 h1 => h x h0 (by omega)), h n (by omega) (by omega)]
  rfl
theorem qiB (a b : Int) (h0 : 0 ≤ a) (hab : a ≤ b) : ∀ n : Nat, (vI (fun x => decide (a ≤ x) && decide (x < b)) n : Int) = max 0 (min b n - a)
 | 0 => by unfold vI; omega
 | n + 1 => by
  have := qiB a b h0 hab n
  unfold vI
  by_cases h1 : a ≤ (n : Int)
  ·by_cases h2 : (n : Int) < b
   ·rw [qw h1, qw h2]
    simp only [Bool.and_self, if_true]
    omega
   ·rw [qq h2, XT, qi Bool.false_ne_true]
    omega
  ·rw [qq h1, wE, qi Bool.false_ne_true]
   omega
def Wb (l : List Sp) (x : Int) : Bool := l.any fun s => decide (s.1 ≤ x) && decide (x < s.2)
theorem qpa (s : Sp) (l : List Sp) : Wb (s :: l) = fun x => (decide (s.1 ≤ x) && decide (x < s.2)) || Wb l x := by
 funext x; unfold Wb; rw [List.any_cons]
theorem qwH {N : Nat} : ∀ (l : List Sp) (m : Int), Nr m l → -1 ≤ m → (∀ s ∈ l, s.2 ≤ N) → tot l = (vI (Wb l) N : Int)
 | [], m, _, _, _ => by
  rw [V0 (P := Wb []) N (fun x _ _ => rfl)]; rfl
 | s :: t, m, h, hm, hb => by
  obtain ⟨h1, h2, h3⟩ := h
  have ih := qwH t s.2 h3 (by omega) (fun q hq => hb q (by simp [hq]))
  have hor := qrL (fun x => decide (s.1 ≤ x) && decide (x < s.2)) (Wb t) N
  have hbs := hb s (by simp)
  have hz : vI (fun x => (decide (s.1 ≤ x) && decide (x < s.2)) && Wb t x) N = 0 := V0 N fun x h0 hx => by
   by_cases hc : x < s.2
   ·have : Wb t x = false := by
     have : ∀ (t : List Sp) (m : Int), Nr m t → x < m → Wb t x = false := fun t => by
      induction t with
      | nil => intros; rfl
      | cons u v ih =>
       intro m hn hx
       obtain ⟨g1, g2, g3⟩ := hn
       rw [qpa]
       show ((decide (u.1 ≤ x) && decide (x < u.2)) || Wb v x) = false
       rw [qq (by omega), ih u.2 g3 (by omega)]; rfl
     exact this t s.2 h3 hc
    show ((decide (s.1 ≤ x) && decide (x < s.2)) && Wb t x) = false
    rw [this, XT]
   ·show ((decide (s.1 ≤ x) && decide (x < s.2)) && Wb t x) = false
    rw [qq hc, XT, wE]
  have hs := qiB s.1 s.2 (by omega) (by omega) N
  rw [qpa]
  show s.2 - s.1 + tot t = _
  omega
theorem VS (l : List Sp) (x : Int) : Wb l x = true ↔ Qu l x := by
 rw [Qh]
 unfold Wb
 simp only [List.any_eq_true, qh, decide_eq_true_eq]
def Xo (m : List Rn) (x : Int) : Bool := Wb (m.map Qd) x
abbrev NN : Nat := 17179869184
theorem qNT {m : List Rn} {r : Rn} {z : Int} (hr : r ∈ m) (h0 : lo r ≤ z) (h1 : z ≤ Go.AM.hi r) : Xo m z = true := by
 unfold Xo
 rw [VS, Qh]
 exact ⟨Qd r, List.mem_map_of_mem hr, h0, by show z < Go.AM.hi r + 1; omega⟩
theorem qxO {m : List Rn} (h : vu m = true) : Chk m ∧ (vI (Xo m) NN : Int) = qp m := by
 unfold vu at h
 rw [qh, decide_eq_true_eq, beq_iff_eq] at h
 have hc := wU.1 h.1
 have hi := qmX hc.goods
 refine ⟨hc, ?_⟩
 rw [← h.2, qwH (N := NN) (nf (m.map Qd)) (-1) (qjo hi) (by omega) (fun s hs => ((qcQ hi).mem s hs).2.2)]
 refine congrArg Int.ofNat (qg3 NN fun x _ _ => ?_)
 have h1 := qsl hi x
 have h2 := VS (nf (m.map Qd)) x
 have h3 := VS (m.map Qd) x
 unfold Xo
 cases e : Wb (m.map Qd) x <;> cases e2 : Wb (nf (m.map Qd)) x <;> simp_all
end Go.AM
