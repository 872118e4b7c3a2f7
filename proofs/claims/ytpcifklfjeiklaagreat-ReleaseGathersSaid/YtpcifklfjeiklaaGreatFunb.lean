/- Contracts of the functions that the law reaches, and the plain law. -/
import Derived.Test.YtpcifklfjeiklaaGreatFuna
set_option linter.unusedVariables false
set_option linter.unusedSimpArgs false
set_option linter.unusedSectionVars false
namespace Go.AM
open Go Go.Proofs

/-! ### diameters -/
def woundS (c d p : Int) : Int := (3141592653 * ((d * d - c * c) * 250)).tdiv (1000000000 * p)
theorem sq_le {c d : Int} (h0 : 0 ≤ c) (h1 : c ≤ d) : c * c ≤ d * d := Int.mul_le_mul h1 h1 h0 (by omega)
theorem sq_in {c d : Int} (h0 : 1 ≤ c) (h1 : c ≤ d) (h2 : d ≤ 2500) : 0 ≤ c * c ∧ c * c ≤ d * d ∧ d * d ≤ 6250000 := by
  refine ⟨Int.mul_nonneg (by omega) (by omega), sq_le (by omega) h1, ?_⟩
  have := sq_le (c := d) (d := 2500) (by omega) h2
  omega
theorem wound_s (k : Nat) {c d p : Int} (h0 : 1 ≤ c) (h1 : c ≤ d) (h2 : d ≤ 2500) (p0 : 1 ≤ p) (p1 : p ≤ 5000) : f_u4 k c d p = some (woundS c d p) ∧ 0 ≤ woundS c d p ∧ woundS c d p ≤ 9223372036854775807 := by
  obtain ⟨a, b, e⟩ := sq_in h0 h1 h2
  have hn : 0 ≤ 3141592653 * ((d * d - c * c) * 250) ∧ 3141592653 * ((d * d - c * c) * 250) ≤ 4908738520312500000 := by omega
  have q0 : 0 ≤ woundS c d p := Int.tdiv_nonneg hn.1 (by omega)
  have q1 : woundS c d p ≤ 3141592653 * ((d * d - c * c) * 250) := by
    unfold woundS
    rw [Int.tdiv_eq_ediv_of_nonneg hn.1]
    exact Int.ediv_le_self _ hn.1
  refine ⟨?_, q0, by omega⟩
  unfold f_u4
  rw [wrap_id (i := 1000000000 * p) (by omega) (by omega), if_pos (by omega), wrap_id (i := d * d) (by omega) (by omega), wrap_id (i := c * c) (by omega) (by omega), wrap_id (i := d * d - c * c) (by omega) (by omega), wrap_id (i := (d * d - c * c) * 250) (by omega) (by omega), wrap_id (i := 3141592653 * ((d * d - c * c) * 250)) (by omega) (by omega)]
  show some (IntKind.i64.wrap (woundS c d p)) = _
  rw [wrap_id (by omega) (by omega)]
theorem wound_mono {c d e p : Int} (h0 : 1 ≤ c) (h1 : c ≤ d) (h2 : d ≤ e) (p0 : 1 ≤ p) : woundS c d p ≤ woundS c e p := by
  have a := sq_le (c := c) (d := d) (by omega) h1
  have b := sq_le (c := d) (d := e) (by omega) h2
  unfold woundS
  rw [Int.tdiv_eq_ediv_of_nonneg (by omega), Int.tdiv_eq_ediv_of_nonneg (by omega)]
  exact Int.ediv_le_ediv (by omega) (by omega)
/-- the least diameter at which a length fits, from d -/
def diaGo (c n p : Int) : Nat → Int → Int × Int
  | 0, _ => (0, 32)
  | j + 1, d => if woundS c d p ≥ n then (d, 0) else diaGo c n p j (d + 1)
theorem diaGo_none {c n p : Int} : ∀ (j : Nat) (d : Int), (∀ q : Int, d ≤ q → q < d + j → ¬ woundS c q p ≥ n) → diaGo c n p j d = (0, 32)
  | 0, _, _ => rfl
  | j + 1, d, h => by
    rw [diaGo, if_neg (h d (by omega) (by omega))]
    exact diaGo_none j (d + 1) fun q h0 h1 => h q (by omega) (by omega)
theorem diaGo_some {c n p : Int} : ∀ (j : Nat) (d r : Int), d ≤ r → r < d + j → (∀ q : Int, d ≤ q → q < r → ¬ woundS c q p ≥ n) → woundS c r p ≥ n → diaGo c n p j d = (r, 0)
  | 0, d, r, h0, h1, _, _ => by omega
  | j + 1, d, r, h0, h1, h2, h3 => by
    rw [diaGo]
    by_cases e : d = r
    · rw [e, if_pos h3]
    · rw [if_neg (h2 d (Int.le_refl _) (by omega))]
      exact diaGo_some j (d + 1) r (by omega) (by omega) (fun q a b => h2 q (by omega) b) h3
def diaS (c n p : Int) : Int × Int := if c < 1 ∨ c > 2500 ∨ n < 0 ∨ n > 17179869184 ∨ p < 1 ∨ p > 5000 then (0, 1) else diaGo c n p (2501 - c).toNat c
theorem ref37_Length_s (k : Nat) {c d p : Int} (h0 : 1 ≤ c) (h1 : c ≤ d) (h2 : d ≤ 2500) (p0 : 1 ≤ p) (p1 : p ≤ 5000) : f_u69 k c d p = some (woundS c d p, 0) := by
  obtain ⟨a, b, e⟩ := sq_in h0 h1 h2
  have hw := (wound_s k h0 h1 h2 p0 p1).2
  have hl : f_u70 k c d p = some 0 := by
    unfold f_u70
    rw [decide_eq_false (by omega : ¬ c < 1), decide_eq_false (by omega : ¬ c > 2500), decide_eq_false (by omega : ¬ d < 1), decide_eq_false (by omega : ¬ d > 2500), decide_eq_false (by omega : ¬ p < 1), decide_eq_false (by omega : ¬ p > 5000), decide_eq_false (by omega : ¬ d < c)]
    rfl
  have hv : v_u70 k c d p = 0 := by unfold v_u70; rw [hl]; rfl
  unfold f_u69
  rw [hl, hv, Option.isSome_some, if_pos rfl, bne_self_eq_false, cond_false, wrap_id (i := 1000000000 * p) (by omega) (by omega), if_pos (by omega), wrap_id (i := d * d) (by omega) (by omega), wrap_id (i := c * c) (by omega) (by omega), wrap_id (i := d * d - c * c) (by omega) (by omega), wrap_id (i := 3141592653 * (d * d - c * c)) (by omega) (by omega), wrap_id (i := 3141592653 * (d * d - c * c) * 250) (by omega) (by omega), show 3141592653 * (d * d - c * c) * 250 = 3141592653 * ((d * d - c * c) * 250) by omega]
  show some (IntKind.i64.wrap (woundS c d p), (0 : Int)) = _
  rw [wrap_id (by omega) (by omega)]
theorem ref37_Dia_4 (k : Nat) {c n p : Int} (h0 : 1 ≤ c) (p0 : 1 ≤ p) (p1 : p ≤ 5000) : ∀ (q j : Nat) (d : Int), d + q = 2501 → c ≤ d → q < j → f_u68_4 k j c n p d = some (diaGo c n p q d) := by
  intro q
  induction q with
  | zero =>
    intro j d hd hc hj
    obtain ⟨j, rfl⟩ : ∃ q, j = q + 1 := ⟨j - 1, by omega⟩
    rw [f_u68_4, decide_eq_false (by omega : ¬ d ≤ 2500)]; rfl
  | succ q ih =>
    intro j d hd hc hj
    obtain ⟨j, rfl⟩ : ∃ q, j = q + 1 := ⟨j - 1, by omega⟩
    have hl := ref37_Length_s k (c := c) (d := d) (p := p) h0 hc (by omega) p0 p1
    have hv : v_u69 k c d p = (woundS c d p, 0) := by unfold v_u69; rw [hl]; rfl
    rw [f_u68_4, decide_eq_true (by omega : d ≤ 2500), cond_true, hl, hv, Option.isSome_some, if_pos rfl, diaGo, wrap_id (by omega) (by omega), ih j (d + 1) (by omega) (by omega) (by omega)]
    by_cases h : woundS c d p ≥ n
    · rw [decide_eq_true h, cond_true, if_pos h]
    · rw [decide_eq_false h, cond_false, if_neg h]
theorem ref37_Dia_s (k : Nat) (hk : 3000 ≤ k) (c n p : Int) : f_u68 k c n p = some (diaS c n p) := by
  unfold f_u68 diaS
  by_cases h : c < 1 ∨ c > 2500 ∨ n < 0 ∨ n > 17179869184 ∨ p < 1 ∨ p > 5000
  · rw [if_pos h]
    have : (decide (c < (1 : Int)) || decide (c > (2500 : Int)) || decide (n < (0 : Int)) || decide (n > (17179869184 : Int)) || decide (p < (1 : Int)) || decide (p > (5000 : Int))) = true := by
      simp only [Bool.or_eq_true, decide_eq_true_iff]; omega
    rw [this]; rfl
  · rw [if_neg h, decide_eq_false (by omega), decide_eq_false (by omega), decide_eq_false (by omega), decide_eq_false (by omega), decide_eq_false (by omega), decide_eq_false (by omega)]
    exact ref37_Dia_4 k (by omega) (by omega) (by omega) (2501 - c).toNat k c (by omega) (Int.le_refl _) (by omega)
theorem ref37_Dia_v (k : Nat) (hk : 3000 ≤ k) (c n p : Int) : v_u68 k c n p = diaS c n p := by
  unfold v_u68; rw [ref37_Dia_s k hk]; rfl
theorem Dia_1_s (k : Nat) {c p : Int} (n : Int) (h0 : 1 ≤ c) (h1 : c ≤ 2500) (p0 : 1 ≤ p) (p1 : p ≤ 5000) {x : Int} (x0 : 0 ≤ x) (x1 : x < 2501 - c) : f_u2 k x c p n = some (decide (woundS c (c + x) p ≥ n)) := by
  have hw := (wound_s k (c := c) (d := c + x) (p := p) h0 (by omega) (by omega) p0 p1).1
  have hv : v_u4 k c (c + x) p = woundS c (c + x) p := by unfold v_u4; rw [hw]; rfl
  unfold f_u2
  rw [wrap_id (by omega) (by omega), hw, hv, Option.isSome_some, if_pos rfl]
theorem mid_s {a b : Int} (h0 : 0 ≤ a) (h1 : a ≤ b) (h2 : b ≤ 2501) : IntKind.i64.wrap ((IntKind.u64.wrap (IntKind.i64.wrap (a + b))).fdiv ((2 : Int) ^ min (Int.toNat (1 : Int)) IntKind.u64.bits)) = (a + b) / 2 := by
  have e : (2 : Int) ^ min (Int.toNat (1 : Int)) IntKind.u64.bits = 2 := by decide
  have u : IntKind.u64.wrap (a + b) = a + b := by
    show (a + b) % 18446744073709551616 = a + b
    exact Int.emod_eq_of_lt (by omega) (by omega)
  rw [wrap_id (i := a + b) (by omega) (by omega), u, e, Int.fdiv_eq_ediv_of_nonneg _ (by decide), wrap_id (by omega) (by omega)]
theorem Search_2 (k : Nat) {c p : Int} (n : Int) (h0 : 1 ≤ c) (hc : c ≤ 2500) (p0 : 1 ≤ p) (p1 : p ≤ 5000) (m : Int) (hm : m = 2501 - c) : ∀ (q j : Nat) (a b : Int), b - a ≤ q → q < j → 0 ≤ a → a ≤ b → b ≤ m → (∀ x : Int, 0 ≤ x → x < a → ¬ woundS c (c + x) p ≥ n) → (b < m → woundS c (c + b) p ≥ n) →
    ∃ r : Int, f_u105_2 k m c p n j a b = some r ∧ 0 ≤ r ∧ r ≤ m ∧ (∀ x : Int, 0 ≤ x → x < r → ¬ woundS c (c + x) p ≥ n) ∧ (r < m → woundS c (c + r) p ≥ n) := by
  intro q
  induction q with
  | zero =>
    intro j a b hq hj a0 ab bm lo hi
    obtain ⟨j, rfl⟩ : ∃ q, j = q + 1 := ⟨j - 1, by omega⟩
    obtain rfl : a = b := by omega
    refine ⟨a, ?_, a0, bm, lo, hi⟩
    rw [f_u105_2, decide_eq_false (by omega : ¬ a < a)]; rfl
  | succ q ih =>
    intro j a b hq hj a0 ab bm lo hi
    obtain ⟨j, rfl⟩ : ∃ q, j = q + 1 := ⟨j - 1, by omega⟩
    by_cases h : a < b
    · have hmid := mid_s a0 ab (by omega)
      have x0 : a ≤ (a + b) / 2 ∧ (a + b) / 2 < b := by omega
      have hd := Dia_1_s k n h0 hc p0 p1 (x := (a + b) / 2) (by omega) (by omega)
      have hv : v_u2 k ((a + b) / 2) c p n = decide (woundS c (c + (a + b) / 2) p ≥ n) := by unfold v_u2; rw [hd]; rfl
      rw [f_u105_2, decide_eq_true h, cond_true]
      simp only [hmid]
      rw [hd, hv, Option.isSome_some, if_pos rfl]
      by_cases hp : woundS c (c + (a + b) / 2) p ≥ n
      · rw [decide_eq_true hp, Bool.not_true, cond_false]
        exact ih j a ((a + b) / 2) (by omega) (by omega) a0 (by omega) (by omega) lo fun _ => hp
      · rw [decide_eq_false hp, Bool.not_false, cond_true, wrap_id (by omega) (by omega)]
        refine ih j ((a + b) / 2 + 1) b (by omega) (by omega) (by omega) (by omega) bm (fun x y0 y1 => ?_) hi
        have := wound_mono (c := c) (d := c + x) (e := c + (a + b) / 2) (p := p) h0 (by omega) (by omega) p0
        omega
    · obtain rfl : a = b := by omega
      refine ⟨a, ?_, a0, bm, lo, hi⟩
      rw [f_u105_2, decide_eq_false h]; rfl
theorem dia_Dia_s (k : Nat) (hk : 3000 ≤ k) (c n p : Int) : f_u1 k c n p = some (diaS c n p) := by
  have hf : f_u3 k c p = some (decide (c ≥ 1) && decide (c ≤ 2500) && decide (p ≥ 1) && decide (p ≤ 5000)) := rfl
  have hv : v_u3 k c p = (decide (c ≥ 1) && decide (c ≤ 2500) && decide (p ≥ 1) && decide (p ≤ 5000)) := rfl
  unfold f_u1 diaS
  rw [hf, hv, Option.isSome_some, if_pos rfl]
  by_cases h : c < 1 ∨ c > 2500 ∨ n < 0 ∨ n > 17179869184 ∨ p < 1 ∨ p > 5000
  · rw [if_pos h]
    have : (!(decide (c ≥ 1) && decide (c ≤ 2500) && decide (p ≥ 1) && decide (p ≤ 5000)) || decide (n < (0 : Int)) || decide (n > (17179869184 : Int))) = true := by
      cases h1 : (decide (c ≥ 1) && decide (c ≤ 2500) && decide (p ≥ 1) && decide (p ≤ 5000))
      · rfl
      · simp only [Bool.and_eq_true, decide_eq_true_iff] at h1
        simp only [Bool.or_eq_true, decide_eq_true_iff]; omega
    rw [this]; rfl
  · rw [if_neg h, decide_eq_true (by omega : c ≥ 1), decide_eq_true (by omega : c ≤ 2500), decide_eq_true (by omega : p ≥ 1), decide_eq_true (by omega : p ≤ 5000), decide_eq_false (by omega : ¬ n < 0), decide_eq_false (by omega : ¬ n > 17179869184)]
    rw [show (!(true && true && true && true) || false || false) = false from rfl, cond_false, wrap_id (i := 2500 - c) (by omega) (by omega), wrap_id (i := 2500 - c + 1) (by omega) (by omega), show 2500 - c + 1 = 2501 - c by omega]
    obtain ⟨r, e, r0, r1, lo, hi⟩ := Search_2 k n (c := c) (p := p) (by omega) (by omega) (by omega) (by omega) (2501 - c) rfl (2501 - c).toNat k 0 (2501 - c) (by omega) (by omega) (Int.le_refl _) (by omega) (Int.le_refl _) (fun x a b => by omega) (fun h => by omega)
    have e : f_u105 k (2501 - c) c p n = some r := e
    have ev : v_u105 k (2501 - c) c p n = r := by unfold v_u105; rw [e]; rfl
    rw [e, ev, Option.isSome_some, if_pos rfl, wrap_id (by omega) (by omega)]
    by_cases hr : r < 2501 - c
    · rw [decide_eq_false (by omega : ¬ c + r > 2500), cond_false, diaGo_some (2501 - c).toNat c (c + r) (by omega) (by omega) (fun x a b => by
        have := lo (x - c) (by omega) (by omega)
        rw [show c + (x - c) = x by omega] at this; exact this) (hi hr)]
    · rw [decide_eq_true (by omega : c + r > 2500), cond_true, diaGo_none (2501 - c).toNat c fun x a b => by
        have := lo (x - c) (by omega) (by omega)
        rw [show c + (x - c) = x by omega] at this; exact this]
theorem dia_Dia_v (k : Nat) (hk : 3000 ≤ k) (c n p : Int) : v_u1 k c n p = diaS c n p := by
  unfold v_u1; rw [dia_Dia_s k hk]; rfl
end Go.AM
namespace Go.AM
open Go

theorem good_iff {r : Rn} : good r ↔ 1 ≤ r.2.1 ∧ 0 ≤ lo r ∧ hi r < 17179869184 := by
  unfold good lo hi
  cases r.2.2
  · simp only [Bool.false_eq_true, if_false]
    constructor
    · rintro ⟨h1, h2, h3, h4, _, h6⟩
      have := h6 trivial
      omega
    · rintro ⟨h1, h2, h3⟩
      refine ⟨by omega, by omega, by omega, by omega, fun h => h.elim, fun _ => by omega⟩
  · simp only [if_true]
    constructor
    · rintro ⟨h1, h2, h3, h4, h5, _⟩
      have := h5 trivial
      omega
    · rintro ⟨h1, h2, h3⟩
      refine ⟨by omega, by omega, by omega, by omega, fun _ => by omega, fun h => by cases h⟩

theorem imgAt_append : ∀ (a b : List Rn) (x : Int), goods a → 0 ≤ x → imgAt (a ++ b) x = if x < lenS a then imgAt a x else imgAt b (x - lenS a)
  | [], b, x, _, h0 => by simp only [List.nil_append, lenS, if_neg (by omega : ¬ x < 0), Int.sub_zero]
  | r :: t, b, x, hg, h0 => by
    have hr := hg.1.1
    have ht := lenS_nonneg hg.2
    show (if x < r.2.1 then img r x else imgAt (t ++ b) (x - r.2.1)) = if x < r.2.1 + lenS t then (if x < r.2.1 then img r x else imgAt t (x - r.2.1)) else imgAt b (x - (r.2.1 + lenS t))
    by_cases h : x < r.2.1
    · rw [if_pos h, if_pos (by omega), if_pos h]
    · rw [if_neg h, imgAt_append t b _ hg.2 (by omega)]
      by_cases h2 : x - r.2.1 < lenS t
      · rw [if_pos h2, if_pos (by omega), if_neg h]
      · rw [if_neg h2, if_neg (by omega), Int.sub_sub]

/-- integers of a run: their images -/
theorem prt_img {r : Rn} {x n y : Int} (h0 : 0 ≤ y) (h1 : y < n) : img (prt r x n) y = img r (x + y) := by
  unfold prt img
  by_cases h : n > 1
  · rw [decide_eq_true h, Bool.and_true]
    cases r.2.2 <;> simp only [Bool.false_eq_true, if_false, if_true] <;> omega
  · have : y = 0 := by omega
    subst this
    cases r.2.2 && decide (n > 1) <;> simp
theorem prt_good {r : Rn} (h : good r) {x n : Int} (h0 : 0 ≤ x) (h1 : 1 ≤ n) (h2 : x + n ≤ r.2.1) : good (prt r x n) := by
  rw [good_iff] at h ⊢
  obtain ⟨g1, g2, g3⟩ := h
  have e1 := img_mem (r := r) (x := x) (by omega) (by omega)
  have e2 := img_mem (r := r) (x := x + n - 1) (by omega) (by omega)
  refine ⟨h1, ?_, ?_⟩
  · unfold prt lo
    by_cases h : n > 1
    · rw [decide_eq_true h, Bool.and_true]
      unfold img at e1 e2 ⊢
      cases hb : r.2.2 <;> rw [hb] at e1 e2 <;> simp only [Bool.false_eq_true, if_false, if_true] at e1 e2 ⊢ <;> omega
    · rw [decide_eq_false h, Bool.and_false]
      simp only [Bool.false_eq_true, if_false]; omega
  · unfold prt hi
    by_cases h : n > 1
    · rw [decide_eq_true h, Bool.and_true]
      unfold img at e1 e2 ⊢
      cases hb : r.2.2 <;> rw [hb] at e1 e2 <;> simp only [Bool.false_eq_true, if_false, if_true] at e1 e2 ⊢ <;> omega
    · rw [decide_eq_false h, Bool.and_false]
      simp only [Bool.false_eq_true, if_false]; omega

theorem stp_of {c r : Rn} (h : apart c r = false) : stp c r = 1 ∨ stp c r = -1 := by
  unfold apart at h
  simp only [Bool.or_eq_false_iff] at h
  generalize stp c r = s at h
  by_cases e1 : s = 1
  · exact .inl e1
  · by_cases e2 : s = -1
    · exact .inr e2
    · have := h.1; simp [e1, e2] at this
theorem back_of {c r : Rn} (h : apart c r = false) (hc : c.2.1 > 1) : c.2.2 = (stp c r == -1) := by
  unfold apart at h
  simp only [Bool.or_eq_false_iff] at h
  have h2 := h.2
  rw [decide_eq_true hc, Bool.true_and] at h2
  cases e : c.2.2 <;> cases e2 : (stp c r == -1) <;> simp_all

/-- a run that takes n integers of the next one -/
theorem grow_img {c r : Rn} (hc : 1 ≤ c.2.1) (h : apart c r = false) {n : Int} (hn : n > 1 → r.2.2 = (stp c r == -1)) {x : Int} (h0 : 0 ≤ x) (h1 : x < c.2.1 + n) :
    img (c.1, c.2.1 + n, stp c r == -1) x = if x < c.2.1 then img c x else img r (x - c.2.1) := by
  have hb := back_of (c := c) (r := r) h
  have hstp : stp c r = r.1 - img c (c.2.1 - 1) := rfl
  rcases stp_of h with hs | hs
  · rw [hs] at hb hn hstp ⊢
    have hf : ((1 : Int) == -1) = false := rfl
    rw [hf] at hb hn ⊢
    unfold img at hstp ⊢
    simp only [Bool.false_eq_true, if_false]
    by_cases hx : x < c.2.1
    · rw [if_pos hx]
      by_cases hc1 : c.2.1 > 1
      · rw [hb hc1]; simp
      · have : x = 0 := by omega
        subst this; cases c.2.2 <;> simp
    · rw [if_neg hx]
      have e1 : r.1 = c.1 + c.2.1 := by
        by_cases hc1 : c.2.1 > 1
        · rw [hb hc1] at hstp; simp only [Bool.false_eq_true, if_false] at hstp; omega
        · cases e : c.2.2 <;> rw [e] at hstp <;> simp only [Bool.false_eq_true, if_false, if_true] at hstp <;> omega
      by_cases hn1 : n > 1
      · rw [hn hn1]; simp only [Bool.false_eq_true, if_false]; omega
      · cases r.2.2 <;> simp only [Bool.false_eq_true, if_false, if_true] <;> omega
  · rw [hs] at hb hn hstp ⊢
    have hf : ((-1 : Int) == -1) = true := rfl
    rw [hf] at hb hn ⊢
    unfold img at hstp ⊢
    simp only [if_true]
    by_cases hx : x < c.2.1
    · rw [if_pos hx]
      by_cases hc1 : c.2.1 > 1
      · rw [hb hc1]; simp
      · have : x = 0 := by omega
        subst this; cases c.2.2 <;> simp
    · rw [if_neg hx]
      have e1 : r.1 = c.1 - c.2.1 := by
        by_cases hc1 : c.2.1 > 1
        · rw [hb hc1] at hstp; simp only [if_true] at hstp; omega
        · cases e : c.2.2 <;> rw [e] at hstp <;> simp only [Bool.false_eq_true, if_false, if_true] at hstp <;> omega
      by_cases hn1 : n > 1
      · rw [hn hn1]; simp only [if_true]; omega
      · cases r.2.2 <;> simp only [Bool.false_eq_true, if_false, if_true] <;> omega

theorem good_of_ends {r : Rn} (h1 : 1 ≤ r.2.1) (a : 0 ≤ img r 0 ∧ img r 0 < 17179869184) (b : 0 ≤ img r (r.2.1 - 1) ∧ img r (r.2.1 - 1) < 17179869184) : good r := by
  rw [good_iff]
  unfold img at a b
  unfold lo hi
  cases hb : r.2.2 <;> rw [hb] at a b <;> simp only [Bool.false_eq_true, if_false, if_true] at a b ⊢ <;> omega
theorem good_img {r : Rn} (h : good r) {x : Int} (h0 : 0 ≤ x) (h1 : x < r.2.1) : 0 ≤ img r x ∧ img r x < 17179869184 := by
  have := img_mem (r := r) h0 h1
  have h := good_iff.1 h
  omega

theorem grow_good {c r : Rn} (hc : good c) (hr : good r) (h : apart c r = false) {n : Int} (hn0 : 1 ≤ n) (hn1 : n ≤ r.2.1) (hn : n > 1 → r.2.2 = (stp c r == -1)) : good (c.1, c.2.1 + n, stp c r == -1) := by
  have hc1 := hc.1
  refine good_of_ends (by show 1 ≤ c.2.1 + n; omega) ?_ ?_
  · rw [grow_img hc1 h hn (by omega) (by omega), if_pos (by omega)]
    exact good_img hc (by omega) (by omega)
  · show 0 ≤ img (c.1, c.2.1 + n, stp c r == -1) (c.2.1 + n - 1) ∧ img (c.1, c.2.1 + n, stp c r == -1) (c.2.1 + n - 1) < 17179869184
    rw [grow_img hc1 h hn (by omega) (by omega), if_neg (by omega)]
    exact good_img hr (by omega) (by omega)

/-- what a further run makes of a normal form -/
theorem addS_spec (b : List Rn) (r : Rn) (hb : goods b) (hr : good r) : goods (addS b r) ∧ lenS (addS b r) = lenS b + r.2.1 ∧ ∀ x, 0 ≤ x → x < lenS b + r.2.1 → imgAt (addS b r) x = imgAt (b ++ [r]) x := by
  have hr1 := hr.1
  have last1 : ∀ (x : Int), x < r.2.1 → imgAt [r] x = img r x := fun x h => by simp only [imgAt, if_pos h]
  have p0 : ∀ x, 0 ≤ x → x < r.2.1 → img (prt r 0 r.2.1) x = img r x := fun x h0 h1 => by rw [prt_img h0 h1, Int.zero_add]
  have hp : good (prt r 0 r.2.1) := prt_good hr (by omega) hr1 (by omega)
  have new : ∀ b : List Rn, goods b → goods (b ++ [prt r 0 r.2.1]) ∧ lenS (b ++ [prt r 0 r.2.1]) = lenS b + r.2.1 ∧ ∀ x, 0 ≤ x → x < lenS b + r.2.1 → imgAt (b ++ [prt r 0 r.2.1]) x = imgAt (b ++ [r]) x := fun b hb => by
    refine ⟨(goods_append _ _).2 ⟨hb, hp, trivial⟩, ?_, fun x h0 h1 => ?_⟩
    · rw [lenS_append]; simp only [lenS]; show lenS b + (r.2.1 + 0) = _; omega
    · rw [imgAt_append _ _ _ hb h0, imgAt_append _ _ _ hb h0]
      by_cases h : x < lenS b
      · rw [if_pos h, if_pos h]
      · rw [if_neg h, if_neg h, last1 _ (by omega)]
        have hlt : x - lenS b < (prt r 0 r.2.1).2.1 := by show x - lenS b < r.2.1; omega
        simp only [imgAt, if_pos hlt]
        exact p0 _ (by omega) (by omega)
  have h0 : ¬ r.2.1 < 1 := by omega
  rcases List.eq_nil_or_concat b with rfl | ⟨pre, c, rfl⟩
  · unfold addS
    rw [if_neg h0]
    exact new [] trivial
  rw [List.concat_eq_append] at *
  obtain ⟨hpre, hc, _⟩ := (goods_append _ _).1 hb
  have hc1 := hc.1
  have hlc : lenS (pre ++ [c]) = lenS pre + c.2.1 := by rw [lenS_append]; simp only [lenS]; omega
  have e : addS (pre ++ [c]) r = (bif apart c r then pre ++ [c] ++ [prt r 0 r.2.1]
      else bif decide (r.2.1 > 1) && !(r.2.2 == (stp c r == -1)) then pre ++ [(c.1, c.2.1 + 1, stp c r == -1), prt r 1 (r.2.1 - 1)]
      else pre ++ [(c.1, c.2.1 + r.2.1, stp c r == -1)]) := by
    unfold addS; rw [if_neg h0]; simp
  rw [e]
  cases ha : apart c r with
  | true => rw [cond_true]; exact new _ hb
  | false =>
  rw [cond_false]
  have old : ∀ x, 0 ≤ x → x < lenS (pre ++ [c]) + r.2.1 → imgAt (pre ++ [c] ++ [r]) x = if x < lenS pre then imgAt pre x else if x - lenS pre < c.2.1 then img c (x - lenS pre) else img r (x - lenS pre - c.2.1) := fun x hx0 hx1 => by
    rw [List.append_assoc, imgAt_append _ _ _ hpre hx0]
    by_cases h : x < lenS pre
    · rw [if_pos h, if_pos h]
    · rw [if_neg h, if_neg h]
      simp only [List.cons_append, List.nil_append, imgAt]
      by_cases h2 : x - lenS pre < c.2.1
      · rw [if_pos h2, if_pos h2]
      · rw [if_neg h2, if_neg h2, if_pos (by omega)]
  cases hd : (decide (r.2.1 > 1) && !(r.2.2 == (stp c r == -1))) with
  | true =>
    rw [cond_true]
    simp only [Bool.and_eq_true, decide_eq_true_eq] at hd
    have hn : (1 : Int) > 1 → r.2.2 = (stp c r == -1) := fun h => by omega
    have hg := grow_good hc hr ha (n := 1) (by omega) (by omega) hn
    have hq : good (prt r 1 (r.2.1 - 1)) := prt_good hr (by omega) (by omega) (by omega)
    refine ⟨(goods_append _ _).2 ⟨hpre, hg, hq, trivial⟩, ?_, fun x hx0 hx1 => ?_⟩
    · rw [lenS_append, hlc]
      simp only [lenS]
      show lenS pre + (c.2.1 + 1 + (r.2.1 - 1 + 0)) = _
      omega
    · rw [old x hx0 hx1, imgAt_append _ _ _ hpre hx0]
      by_cases h : x < lenS pre
      · rw [if_pos h, if_pos h]
      · rw [if_neg h, if_neg h]
        simp only [imgAt]
        show (if x - lenS pre < c.2.1 + 1 then _ else if x - lenS pre - (c.2.1 + 1) < r.2.1 - 1 then _ else _) = _
        by_cases h2 : x - lenS pre < c.2.1 + 1
        · rw [if_pos h2, grow_img hc1 ha hn (by omega) h2]
        · rw [if_neg h2, if_pos (by omega), if_neg (by omega), prt_img (by omega) (by omega)]
          congr 1; omega
  | false =>
    rw [cond_false]
    have hn : r.2.1 > 1 → r.2.2 = (stp c r == -1) := fun h => by
      rw [decide_eq_true h, Bool.true_and] at hd
      cases e : r.2.2 <;> cases e2 : (stp c r == -1) <;> simp_all
    have hg := grow_good hc hr ha (n := r.2.1) (by omega) (by omega) hn
    refine ⟨(goods_append _ _).2 ⟨hpre, hg, trivial⟩, ?_, fun x hx0 hx1 => ?_⟩
    · rw [lenS_append, hlc]
      simp only [lenS]
      show lenS pre + (c.2.1 + r.2.1 + 0) = _
      omega
    · rw [old x hx0 hx1, imgAt_append _ _ _ hpre hx0]
      by_cases h : x < lenS pre
      · rw [if_pos h, if_pos h]
      · rw [if_neg h, if_neg h]
        simp only [imgAt]
        show (if x - lenS pre < c.2.1 + r.2.1 then _ else _) = _
        rw [if_pos (by omega), grow_img hc1 ha hn (by omega) (by omega)]

theorem adds_spec : ∀ (l b : List Rn), goods b → goods l → goods (adds b l) ∧ lenS (adds b l) = lenS b + lenS l ∧ ∀ x, 0 ≤ x → x < lenS b + lenS l → imgAt (adds b l) x = imgAt (b ++ l) x
  | [], b, hb, _ => by simp [adds, lenS, hb]
  | r :: t, b, hb, ⟨hr, ht⟩ => by
    obtain ⟨a1, a2, a3⟩ := addS_spec b r hb hr
    obtain ⟨b1, b2, b3⟩ := adds_spec t (addS b r) a1 ht
    have hr1 := hr.1
    have hb0 := lenS_nonneg hb
    have ht0 := lenS_nonneg ht
    refine ⟨b1, by show lenS (adds (addS b r) t) = _; rw [b2, a2]; simp only [lenS]; omega, fun x h0 h1 => ?_⟩
    show imgAt (adds (addS b r) t) x = _
    simp only [lenS] at h1
    rw [b3 x h0 (by rw [a2]; omega), imgAt_append _ _ _ a1 h0, a2, show b ++ r :: t = b ++ [r] ++ t by simp, imgAt_append (b ++ [r]) _ _ ((goods_append _ _).2 ⟨hb, hr, trivial⟩) h0, lenS_append, show lenS [r] = r.2.1 by simp [lenS]]
    by_cases h : x < lenS b + r.2.1
    · rw [if_pos h, if_pos h, a3 x h0 h]
    · rw [if_neg h, if_neg h]

theorem pieces_spec : ∀ (m : List Rn) (a b : Int), goods m → a < b → b ≤ lenS m → 0 ≤ b →
    goods (pieces m a b) ∧ lenS (pieces m a b) = b - max a 0 ∧ ∀ x, 0 ≤ x → x < b - max a 0 → imgAt (pieces m a b) x = imgAt m (max a 0 + x)
  | [], a, b, _, h1, h2, h3 => by
    simp only [lenS] at h2
    refine ⟨trivial, by simp only [pieces, lenS]; omega, fun x h0 hx => by omega⟩
  | r :: t, a, b, ⟨hr, ht⟩, h1, h2, h3 => by
    have hr1 := hr.1
    have ht0 := lenS_nonneg ht
    simp only [lenS] at h2
    by_cases hb : b - r.2.1 ≤ 0
    · -- the end lies within the first run
      have hnil : pieces t (a - r.2.1) (b - r.2.1) = [] := by
        have : ∀ (t : List Rn) (a b : Int), b ≤ 0 → goods t → pieces t a b = [] := fun t => by
          induction t with
          | nil => intros; rfl
          | cons u v ih =>
            intro a b hb hg
            have := hg.1.1
            simp only [pieces]
            rw [if_neg (by omega), ih _ _ (by omega) hg.2]; rfl
        exact this t _ _ hb ht
      simp only [pieces, hnil, List.append_nil]
      by_cases hc : max a 0 < min b r.2.1
      · rw [if_pos hc]
        refine ⟨⟨prt_good hr (by omega) (by omega) (by omega), trivial⟩, ?_, fun x h0 hx => ?_⟩
        · simp only [lenS]; show min b r.2.1 - max a 0 + 0 = _; omega
        · have hlt : x < min b r.2.1 - max a 0 := by omega
          show (if x < min b r.2.1 - max a 0 then img (prt r (max a 0) (min b r.2.1 - max a 0)) x else 0) = if max a 0 + x < r.2.1 then img r (max a 0 + x) else imgAt t (max a 0 + x - r.2.1)
          rw [if_pos hlt, prt_img h0 hlt, if_pos (by omega)]
      · rw [if_neg hc]
        refine ⟨trivial, by simp only [lenS]; omega, fun x h0 hx => by omega⟩
    · obtain ⟨i1, i2, i3⟩ := pieces_spec t (a - r.2.1) (b - r.2.1) ht (by omega) (by omega) (by omega)
      simp only [pieces]
      by_cases hc : max a 0 < min b r.2.1
      · rw [if_pos hc]
        refine ⟨⟨prt_good hr (by omega) (by omega) (by omega), i1⟩, ?_, fun x h0 hx => ?_⟩
        · simp only [List.cons_append, List.nil_append, lenS, i2]; show min b r.2.1 - max a 0 + _ = _; omega
        · simp only [List.cons_append, List.nil_append, imgAt]
          show (if x < min b r.2.1 - max a 0 then _ else imgAt _ (x - (min b r.2.1 - max a 0))) = _
          by_cases hx2 : x < min b r.2.1 - max a 0
          · rw [if_pos hx2, prt_img h0 hx2, if_pos (by omega)]
          · rw [if_neg hx2, i3 _ (by omega) (by omega), if_neg (by omega)]
            congr 1; omega
      · rw [if_neg hc, List.nil_append]
        refine ⟨i1, by rw [i2]; omega, fun x h0 hx => ?_⟩
        rw [i3 x h0 (by omega)]
        simp only [imgAt]
        rw [if_neg (by omega)]
        congr 1; omega

theorem rvs1_good {p : Rn} (h : good p) : good (rvs1 p) ∧ (rvs1 p).2.1 = p.2.1 ∧ ∀ x, 0 ≤ x → x < p.2.1 → img (rvs1 p) x = img p (p.2.1 - 1 - x) := by
  have h1 := h.1
  have hi : ∀ x, 0 ≤ x → x < p.2.1 → img (rvs1 p) x = img p (p.2.1 - 1 - x) := fun x h0 hx => by
    unfold rvs1 img
    by_cases hl : p.2.1 > 1
    · rw [decide_eq_true hl, Bool.and_true]
      cases p.2.2 <;> simp only [Bool.not_false, Bool.not_true, Bool.false_eq_true, if_false, if_true] <;> omega
    · have : x = 0 := by omega
      subst this
      rw [decide_eq_false hl, Bool.and_false]
      simp
  refine ⟨good_of_ends h1 ?_ ?_, rfl, hi⟩
  · rw [hi 0 (by omega) (by omega)]; exact good_img h (by omega) (by omega)
  · show 0 ≤ img (rvs1 p) (p.2.1 - 1) ∧ img (rvs1 p) (p.2.1 - 1) < 17179869184
    rw [hi _ (by omega) (by omega)]; exact good_img h (by omega) (by omega)

theorem revs_spec : ∀ (l : List Rn), goods l → goods (l.reverse.map rvs1) ∧ lenS (l.reverse.map rvs1) = lenS l ∧ ∀ x, 0 ≤ x → x < lenS l → imgAt (l.reverse.map rvs1) x = imgAt l (lenS l - 1 - x)
  | [], _ => ⟨trivial, rfl, fun x _ h => by simp only [lenS] at h; omega⟩
  | r :: t, ⟨hr, ht⟩ => by
    obtain ⟨i1, i2, i3⟩ := revs_spec t ht
    obtain ⟨r1, r2, r3⟩ := rvs1_good hr
    have hr1 := hr.1
    have ht0 := lenS_nonneg ht
    have e : (r :: t).reverse.map rvs1 = t.reverse.map rvs1 ++ [rvs1 r] := by simp
    rw [e]
    refine ⟨(goods_append _ _).2 ⟨i1, r1, trivial⟩, ?_, fun x h0 hx => ?_⟩
    · rw [lenS_append, i2]; simp only [lenS, r2]; omega
    · simp only [lenS] at hx ⊢
      rw [imgAt_append _ _ _ i1 h0, i2]
      simp only [imgAt, r2]
      by_cases h : x < lenS t
      · rw [if_pos h, i3 x h0 h, if_neg (by omega)]
        congr 1; omega
      · rw [if_neg h, if_pos (by omega), if_pos (by omega), r3 _ (by omega) (by omega)]
        congr 1; omega

theorem steps_spec (outer : List Rn) (r : Rn) (ho : goods outer) (hr : good r) (hh : hi r < lenS outer) :
    goods (steps outer r) ∧ lenS (steps outer r) = r.2.1 ∧ ∀ x, 0 ≤ x → x < r.2.1 → imgAt (steps outer r) x = imgAt outer (img r x) := by
  obtain ⟨l1, l2, l3, l4⟩ := hr.lohi
  have hr1 := hr.1
  unfold steps
  unfold lo at l1 l2 l4
  unfold hi at l2 l3 l4 hh
  cases hb : r.2.2
  · rw [hb] at l1 l2 l3 l4 hh
    simp only [Bool.false_eq_true, if_false] at l1 l2 l3 l4 hh ⊢
    obtain ⟨p1, p2, p3⟩ := pieces_spec outer r.1 (r.1 + r.2.1) ho (by omega) (by omega) (by omega)
    refine ⟨p1, by rw [p2]; omega, fun x h0 hx => ?_⟩
    rw [p3 x h0 (by omega)]
    unfold img
    rw [hb]
    simp only [Bool.false_eq_true, if_false]
    congr 1; omega
  · rw [hb] at l1 l2 l3 l4 hh
    simp only [if_true] at l1 l2 l3 l4 hh ⊢
    obtain ⟨p1, p2, p3⟩ := pieces_spec outer (r.1 - r.2.1 + 1) (r.1 + 1) ho (by omega) (by omega) (by omega)
    obtain ⟨q1, q2, q3⟩ := revs_spec _ p1
    refine ⟨q1, by rw [q2, p2]; omega, fun x h0 hx => ?_⟩
    rw [q3 x h0 (by omega), p3 _ (by omega) (by omega), p2]
    unfold img
    rw [hb]
    simp only [if_true]
    congr 1; omega

theorem compS_spec (outer : List Rn) (ho : goods outer) : ∀ (inner b : List Rn), goods inner → fitsIn (lenS outer) inner → goods b →
    goods (inner.foldl (fun b r => adds b (steps outer r)) b) ∧ lenS (inner.foldl (fun b r => adds b (steps outer r)) b) = lenS b + lenS inner ∧
    ∀ x, 0 ≤ x → x < lenS b + lenS inner → imgAt (inner.foldl (fun b r => adds b (steps outer r)) b) x = if x < lenS b then imgAt b x else imgAt outer (imgAt inner (x - lenS b))
  | [], b, _, _, hb => ⟨hb, by simp [lenS], fun x h0 h1 => by simp only [lenS, Int.add_zero] at h1; simp only [List.foldl_nil]; rw [if_pos h1]⟩
  | r :: t, b, ⟨hr, ht⟩, ⟨hf, hft⟩, hb => by
    obtain ⟨s1, s2, s3⟩ := steps_spec outer r ho hr hf
    obtain ⟨a1, a2, a3⟩ := adds_spec (steps outer r) b hb s1
    obtain ⟨i1, i2, i3⟩ := compS_spec outer ho t (adds b (steps outer r)) ht hft a1
    have hr1 := hr.1
    have ht0 := lenS_nonneg ht
    simp only [List.foldl_cons, lenS]
    refine ⟨i1, by rw [i2, a2, s2]; omega, fun x h0 hx => ?_⟩
    rw [i3 x h0 (by rw [a2, s2]; omega), a2, s2]
    by_cases h : x < lenS b + r.2.1
    · rw [if_pos h, a3 x h0 (by rw [s2]; omega), imgAt_append _ _ _ hb h0]
      by_cases h2 : x < lenS b
      · rw [if_pos h2, if_pos h2]
      · rw [if_neg h2, if_neg h2, s3 _ (by omega) (by omega)]
        simp only [imgAt]
        rw [if_pos (by omega)]
    · rw [if_neg h, if_neg (by omega)]
      simp only [imgAt]
      rw [if_neg (by omega)]
      congr 2; omega

/-- a composition: valid, and the one map after the other -/
theorem comp_spec {inner outer m : List Rn} (h : comp inner outer = (m, 0)) : Chk inner ∧ Chk outer ∧ fitsIn (lenS outer) inner ∧ Chk m ∧ lenS m = lenS inner ∧ ∀ x, 0 ≤ x → x < lenS inner → imgAt m x = imgAt outer (imgAt inner x) := by
  unfold comp at h
  by_cases h1 : chk inner ≠ 0
  · rw [if_pos h1] at h; exact absurd (congrArg Prod.snd h) h1
  rw [if_neg h1] at h
  by_cases h2 : chk outer ≠ 0
  · rw [if_pos h2] at h; exact absurd (congrArg Prod.snd h) h2
  rw [if_neg h2] at h
  by_cases h3 : ¬ fitsIn (lenS outer) inner
  · rw [if_pos h3] at h; exact absurd (congrArg Prod.snd h) (fun e => by cases e)
  rw [if_neg h3] at h
  by_cases h4 : (compS inner outer).length > 256
  · rw [if_pos h4] at h; exact absurd (congrArg Prod.snd h) (fun e => by cases e)
  rw [if_neg h4] at h
  have h1 := chk_zero.1 (Classical.not_not.1 h1)
  have h2 := chk_zero.1 (Classical.not_not.1 h2)
  have h3 := Classical.not_not.1 h3
  have e : compS inner outer = m := congrArg Prod.fst h
  obtain ⟨c1, c2, c3⟩ := compS_spec outer h2.goods inner [] h1.goods h3 trivial
  have c1 : goods (compS inner outer) := c1
  have c2 : lenS (compS inner outer) = 0 + lenS inner := c2
  rw [e] at c1 c2 h4
  refine ⟨h1, h2, h3, ⟨by omega, c1, by rw [c2]; have := h1.tot; omega⟩, by omega, fun x h0 hx => ?_⟩
  have := c3 x h0 (by simp only [lenS]; omega)
  have this : imgAt (compS inner outer) x = _ := this
  rw [e] at this
  rw [this]
  simp only [lenS, if_neg (by omega : ¬ x < 0), Int.sub_zero]
theorem goods.bnds {b : List Rn} (h : goods b) : ∀ c ∈ b, Bnd c ∧ 1 ≤ c.2.1 := fun c hc => ⟨(h.mem c hc).bnd, (h.mem c hc).1⟩
theorem addS_len (b : List Rn) (r : Rn) : (addS b r).length ≤ b.length + 1 := by
  by_cases h0 : r.2.1 < 1
  · rw [addS_zero _ _ h0]; omega
  rcases List.eq_nil_or_concat b with rfl | ⟨pre, c, rfl⟩
  · rw [addS_nil _ h0]; simp
  rw [List.concat_eq_append, addS_last _ _ _ h0]
  cases apart c r
  · rw [cond_false]
    cases decide (r.2.1 > 1) && !(r.2.2 == (stp c r == -1))
    · rw [cond_false]; simp
    · rw [cond_true]; simp
  · rw [cond_true]; simp
theorem adds_len : ∀ (l b : List Rn), (adds b l).length ≤ b.length + l.length
  | [], b => by simp [adds]
  | r :: t, b => by
    have h1 := addS_len b r
    have h2 := adds_len t (addS b r)
    have : adds b (r :: t) = adds (addS b r) t := rfl
    rw [this]; simp only [List.length_cons]; omega
theorem pieces_len : ∀ (m : List Rn) (a b : Int), (pieces m a b).length ≤ m.length
  | [], _, _ => Nat.le_refl _
  | r :: t, a, b => by
    have := pieces_len t (a - r.2.1) (b - r.2.1)
    simp only [pieces, List.length_append, List.length_cons]
    split <;> simp <;> omega
theorem adds_append (b l m : List Rn) : adds b (l ++ m) = adds (adds b l) m := by unfold adds; rw [List.foldl_append]

/-- one piece, as the program has it -/
theorem piece_eq (r : Rn) (f t a : Int) : (if a > f then a else f) - a = max (f - a) 0 ∧ (if a + r.2.1 < t then a + r.2.1 else t) - (if a > f then a else f) = min (t - a) r.2.1 - max (f - a) 0 ∧ ((if a > f then a else f) < (if a + r.2.1 < t then a + r.2.1 else t) ↔ max (f - a) 0 < min (t - a) r.2.1) := by
  refine ⟨?_, ?_, ?_⟩ <;> split <;> (try split) <;> omega

structure EachOk (m : List Rn) (f t : Int) : Prop where
  goods : goods m
  len : m.length ≤ 300
  f0 : -1125899906842624 ≤ f ∧ f ≤ 1125899906842624
  t0 : -1125899906842624 ≤ t ∧ t ≤ 1125899906842624

theorem iso_each_add_l (k : Nat) (hk : 4 ≤ k) (m0 : List Rn) (f0 t0 : Int) (b0 : List Rn) (m : List Rn) (f t : Int) (ok : EachOk m f t) : ∀ (j i : Nat) (a : Int) (b : List Rn), i ≤ m.length → m.length - i < j → 0 ≤ a → a ≤ (i : Int) * 17179869184 → goods b → b.length ≤ 100000000 + i →
    f_u27_2 k m0 f0 t0 b0 j f t a m (m.length : Int) (i : Int) b = some (adds b (pieces (m.drop i) (f - a) (t - a))) := by
  obtain ⟨hg, hm, ⟨f1, f2⟩, t1, t2⟩ := ok
  intro j
  induction j with
  | zero => intros; omega
  | succ j ih =>
    intro i a b hi hj h0 ha hb hbl
    rw [f_u27_2]
    by_cases h : i < m.length
    · have hgr : good (m.getD i T0.dflt) := hg.mem _ (by simp [h])
      rw [decide_eq_true (by omega : (i : Int) < (m.length : Int)), cond_true, if_pos ⟨by omega, by omega⟩, drop_cons' m i T0.dflt h, Int.toNat_natCast]
      generalize m.getD i T0.dflt = r at hgr
      have hgr' := hgr
      obtain ⟨g1, g2, g3, g4, _⟩ := hgr
      obtain ⟨e1, e2, e3⟩ := piece_eq r f t a
      have m1 : -9223372036854775808 ≤ (if a > f then a else f) - a := by split <;> omega
      have m2 : (if a > f then a else f) - a < 9223372036854775808 := by split <;> omega
      have m3 : -9223372036854775808 ≤ (if a + r.snd.fst < t then a + r.snd.fst else t) - (if a > f then a else f) := by split <;> split <;> omega
      have m4 : (if a + r.snd.fst < t then a + r.snd.fst else t) - (if a > f then a else f) < 9223372036854775808 := by split <;> split <;> omega
      rw [wrap_id (i := a + r.snd.fst) (by omega) (by omega), wrap_id m1 m2, wrap_id m3 m4, wrapS i (by omega), e1, e2]
      have hrec : f - a - r.2.1 = f - (a + r.snd.fst) := by omega
      have hrec2 : t - a - r.2.1 = t - (a + r.snd.fst) := by omega
      by_cases hc : max (f - a) 0 < min (t - a) r.2.1
      · have hp := prt_good hgr' (x := max (f - a) 0) (n := min (t - a) r.2.1 - max (f - a) 0) (by omega) (by omega) (by omega)
        rw [decide_eq_true (e3.2 hc), cond_true, iso_part_s k r _ _ (by omega) (by omega) (by omega) (by omega), iso_part_v k r _ _ (by omega) (by omega) (by omega) (by omega)]
        rw [iso_add_s k hk b _ (by omega) hp.bnd hb.bnds, iso_add_v k hk b _ (by omega) hp.bnd hb.bnds, if_pos ⟨rfl, rfl⟩]
        rw [ih (i + 1) _ _ (by omega) (by omega) (by omega) (by omega) (addS_spec b _ hb hp).1 (by have := addS_len b (prt r (max (f - a) 0) (min (t - a) r.snd.fst - max (f - a) 0)); omega)]
        rw [pieces, if_pos hc, adds_append, hrec, hrec2]
        rfl
      · rw [decide_eq_false (fun x => hc (e3.1 x)), cond_false, ih (i + 1) _ _ (by omega) (by omega) (by omega) (by omega) hb (by omega), pieces, if_neg hc, List.nil_append, hrec, hrec2]
    · rw [decide_eq_false (by omega : ¬ (i : Int) < (m.length : Int)), cond_false, drop_all m i (by omega)]
      rfl
theorem iso_each_add_s (k : Nat) (hk : 304 ≤ k) (m : List Rn) (f t : Int) (ok : EachOk m f t) (b : List Rn) (hb : goods b) (hbl : b.length ≤ 100000000) : f_u27 k m f t b = some (adds b (pieces m f t)) := by
  unfold f_u27
  have := iso_each_add_l k (by omega) m f t b m f t ok k 0 0 b (by omega) (by have := ok.len; omega) (by omega) (by omega) hb (by omega)
  rw [Int.sub_zero, Int.sub_zero] at this
  exact this
theorem iso_each_add_v (k : Nat) (hk : 304 ≤ k) (m : List Rn) (f t : Int) (ok : EachOk m f t) (b : List Rn) (hb : goods b) (hbl : b.length ≤ 100000000) : v_u27 k m f t b = adds b (pieces m f t) := by
  unfold v_u27; rw [iso_each_add_s k hk m f t ok b hb hbl]; rfl

theorem iso_each_piece_l (k : Nat) (m0 : List Rn) (f0 t0 : Int) (b0 : List Rn) (m : List Rn) (f t : Int) (ok : EachOk m f t) : ∀ (j i : Nat) (a : Int) (b : List Rn), i ≤ m.length → m.length - i < j → 0 ≤ a → a ≤ (i : Int) * 17179869184 → b.length ≤ 100000000 + i →
    f_u28_2 k m0 f0 t0 b0 j f t a m (m.length : Int) (i : Int) b = some (b ++ pieces (m.drop i) (f - a) (t - a)) := by
  obtain ⟨hg, hm, ⟨f1, f2⟩, t1, t2⟩ := ok
  intro j
  induction j with
  | zero => intros; omega
  | succ j ih =>
    intro i a b hi hj h0 ha hbl
    rw [f_u28_2]
    by_cases h : i < m.length
    · have hgr : good (m.getD i T0.dflt) := hg.mem _ (by simp [h])
      rw [decide_eq_true (by omega : (i : Int) < (m.length : Int)), cond_true, if_pos ⟨by omega, by omega⟩, drop_cons' m i T0.dflt h, Int.toNat_natCast]
      generalize m.getD i T0.dflt = r at hgr
      obtain ⟨g1, g2, g3, g4, _⟩ := hgr
      obtain ⟨e1, e2, e3⟩ := piece_eq r f t a
      have m1 : -9223372036854775808 ≤ (if a > f then a else f) - a := by split <;> omega
      have m2 : (if a > f then a else f) - a < 9223372036854775808 := by split <;> omega
      have m3 : -9223372036854775808 ≤ (if a + r.snd.fst < t then a + r.snd.fst else t) - (if a > f then a else f) := by split <;> split <;> omega
      have m4 : (if a + r.snd.fst < t then a + r.snd.fst else t) - (if a > f then a else f) < 9223372036854775808 := by split <;> split <;> omega
      rw [wrap_id (i := a + r.snd.fst) (by omega) (by omega), wrap_id m1 m2, wrap_id m3 m4, wrapS i (by omega), e1, e2]
      have hrec : f - a - r.2.1 = f - (a + r.snd.fst) := by omega
      have hrec2 : t - a - r.2.1 = t - (a + r.snd.fst) := by omega
      by_cases hc : max (f - a) 0 < min (t - a) r.2.1
      · rw [decide_eq_true (e3.2 hc), cond_true, iso_part_s k r _ _ (by omega) (by omega) (by omega) (by omega), iso_part_v k r _ _ (by omega) (by omega) (by omega) (by omega)]
        have ec : ∀ p : Rn, f_u20 k p b = some (b ++ [p]) := fun p => by
          unfold f_u20
          rw [if_pos (by rw [List.length_singleton]; omega)]
        have ev : ∀ p : Rn, v_u20 k p b = b ++ [p] := fun p => by unfold v_u20; rw [ec]; rfl
        rw [ec, ev, if_pos ⟨rfl, rfl⟩, ih (i + 1) _ _ (by omega) (by omega) (by omega) (by omega) (by rw [List.length_append, List.length_singleton]; omega), pieces, if_pos hc, hrec, hrec2]
        simp
      · rw [decide_eq_false (fun x => hc (e3.1 x)), cond_false, ih (i + 1) _ _ (by omega) (by omega) (by omega) (by omega) (by omega), pieces, if_neg hc, List.nil_append, hrec, hrec2]
    · rw [decide_eq_false (by omega : ¬ (i : Int) < (m.length : Int)), cond_false, drop_all m i (by omega)]
      simp [pieces]
theorem iso_each_piece_s (k : Nat) (hk : 304 ≤ k) (m : List Rn) (f t : Int) (ok : EachOk m f t) : f_u28 k m f t [] = some (pieces m f t) := by
  unfold f_u28
  have := iso_each_piece_l k m f t [] m f t ok k 0 0 [] (by omega) (by have := ok.len; omega) (by omega) (by omega) (by simp)
  rw [Int.sub_zero, Int.sub_zero, List.nil_append] at this
  exact this
theorem iso_each_piece_v (k : Nat) (hk : 304 ≤ k) (m : List Rn) (f t : Int) (ok : EachOk m f t) : v_u28 k m f t [] = pieces m f t := by
  unfold v_u28; rw [iso_each_piece_s k hk m f t ok]; rfl

theorem iso_reversed_l (k : Nat) (hk : 4 ≤ k) (m0 b0 : List Rn) (m : List Rn) (hg : goods m) (hm : m.length ≤ 300) : ∀ (j i : Nat) (b : List Rn), i ≤ m.length → i < j → goods b → b.length ≤ 100000000 + (m.length - i) →
    f_u33_1 k m0 b0 j m ((i : Int) - 1) b = some (adds b ((m.take i).reverse.map rvs1)) := by
  intro j
  induction j with
  | zero => intros; omega
  | succ j ih =>
    intro i b hi hj hb hbl
    rw [f_u33_1]
    cases i with
    | zero =>
      rw [decide_eq_false (by omega), cond_false]
      rfl
    | succ i =>
      have hlt : i < m.length := by omega
      have hgr : good (m.getD i T0.dflt) := hg.mem _ (by simp [hlt])
      rw [show ((i + 1 : Nat) : Int) - 1 = (i : Int) by omega, decide_eq_true (by omega), cond_true, if_pos ⟨by omega, by omega⟩, Int.toNat_natCast, take_snoc m i T0.dflt hlt]
      generalize m.getD i T0.dflt = r at hgr
      obtain ⟨q1, _, _⟩ := rvs1_good hgr
      obtain ⟨g1, g2, g3, g4, _⟩ := hgr
      have er : (img r (r.snd.fst - 1), r.snd.fst, !r.snd.snd && decide (r.snd.fst > 1)) = rvs1 r := rfl
      rw [wrap_id (i := r.snd.fst - 1) (by omega) (by omega), wrap_id (i := (i : Int) - 1) (by omega) (by omega), iso_image_s k r _ (by omega) (by omega) (by omega) (by omega), iso_image_v k r _ (by omega) (by omega) (by omega) (by omega), er]
      rw [iso_add_s k hk b _ (by omega) q1.bnd hb.bnds, iso_add_v k hk b _ (by omega) q1.bnd hb.bnds, if_pos ⟨rfl, rfl⟩]
      rw [ih i _ (by omega) (by omega) (addS_spec b _ hb q1).1 (by have := addS_len b (rvs1 r); omega)]
      simp only [List.reverse_append, List.reverse_cons, List.reverse_nil, List.nil_append, List.cons_append, List.map_cons]
      rfl
theorem iso_reversed_s (k : Nat) (hk : 304 ≤ k) (m : List Rn) (hg : goods m) (hm : m.length ≤ 300) (b : List Rn) (hb : goods b) (hbl : b.length ≤ 100000000) : f_u33 k m b = some (adds b (m.reverse.map rvs1)) := by
  unfold f_u33
  rw [wrap_id (by omega) (by omega), iso_reversed_l k (by omega) m b m hg hm k m.length b (by omega) (by omega) hb (by omega), List.take_length]
theorem iso_reversed_v (k : Nat) (hk : 304 ≤ k) (m : List Rn) (hg : goods m) (hm : m.length ≤ 300) (b : List Rn) (hb : goods b) (hbl : b.length ≤ 100000000) : v_u33 k m b = adds b (m.reverse.map rvs1) := by
  unfold v_u33; rw [iso_reversed_s k hk m hg hm b hb hbl]; rfl

theorem max_ends {r : Rn} (h : good r) : (if img r (r.2.1 - 1) > r.1 then img r (r.2.1 - 1) else r.1) = hi r := by
  have h1 := h.1
  unfold img hi
  cases r.2.2 <;> simp only [Bool.false_eq_true, if_false, if_true] <;> split <;> omega
theorem min_ends {r : Rn} (h : good r) : (if img r (r.2.1 - 1) < r.1 then img r (r.2.1 - 1) else r.1) = lo r := by
  have h1 := h.1
  unfold img lo
  cases r.2.2 <;> simp only [Bool.false_eq_true, if_false, if_true] <;> split <;> omega

theorem steps_len (outer : List Rn) (r : Rn) : (steps outer r).length ≤ outer.length := by
  unfold steps
  split
  · simp only [List.length_map, List.length_reverse]; exact pieces_len _ _ _
  · exact pieces_len _ _ _

theorem iso_Compose16_l (k : Nat) (hk : 700 ≤ k) (inner outer : List Rn) (hin : Chk inner) (ho : Chk outer) (hf : fitsIn (lenS outer) inner) : ∀ (j i : Nat) (b : List Rn), i ≤ inner.length → inner.length - i < j → goods b → b.length ≤ i * 256 →
    f_u19_16 k j outer inner (inner.length : Int) (i : Int) b = some (if ((inner.drop i).foldl (fun b r => adds b (steps outer r)) b).length > 256 then ([], 8) else ((inner.drop i).foldl (fun b r => adds b (steps outer r)) b, 0)) := by
  have hil := hin.len
  have hol := ho.len
  have fitmem : ∀ {n : Int} {l : List Rn}, fitsIn n l → ∀ r ∈ l, hi r < n := fun {n l} => by
    induction l with
    | nil => intro _ r hr; simp at hr
    | cons u v ih =>
      rintro ⟨h1, h2⟩ r hr
      rcases List.mem_cons.1 hr with rfl | hr
      · exact h1
      · exact ih h2 r hr
  intro j
  induction j with
  | zero => intros; omega
  | succ j ih =>
    intro i b hi hj hb hbl
    rw [f_u19_16]
    by_cases h : i < inner.length
    · have hmem : inner.getD i T0.dflt ∈ inner := by simp [h]
      have hgr : good (inner.getD i T0.dflt) := hin.goods.mem _ hmem
      have hfr := fitmem hf _ hmem
      rw [decide_eq_true (by omega : (i : Int) < (inner.length : Int)), cond_true, if_pos ⟨by omega, by omega⟩, drop_cons' inner i T0.dflt h, Int.toNat_natCast]
      generalize inner.getD i T0.dflt = r at hgr hfr
      have hgr' := hgr
      obtain ⟨g1, g2, g3, g4, _⟩ := hgr
      obtain ⟨s1, s2, s3⟩ := steps_spec outer r ho.goods hgr' hfr
      have hsl := steps_len outer r
      have hal := adds_len (steps outer r) b
      have hag := (adds_spec (steps outer r) b hb s1).1
      rw [List.foldl_cons]
      cases hbk : r.snd.snd with
      | false =>
        have es : steps outer r = pieces outer r.1 (r.1 + r.2.1) := by unfold steps; rw [show r.2.2 = r.snd.snd from rfl, hbk, if_neg (by decide)]
        have ok : EachOk outer r.fst (r.fst + r.snd.fst) := ⟨ho.goods, by omega, ⟨by omega, by omega⟩, by omega, by omega⟩
        rw [Bool.not_false, cond_true, wrap_id (i := r.fst + r.snd.fst) (by omega) (by omega), iso_each_add_s k (by omega) outer _ _ ok b hb (by omega), iso_each_add_v k (by omega) outer _ _ ok b hb (by omega), Option.isSome_some, if_pos rfl, wrapS i (by omega), ← es]
        exact ih (i + 1) _ (by omega) (by omega) hag (by omega)
      | true =>
        have es : steps outer r = ((pieces outer (r.1 - r.2.1 + 1) (r.1 + 1)).reverse).map rvs1 := by unfold steps; rw [show r.2.2 = r.snd.snd from rfl, hbk, if_pos rfl]
        have ok : EachOk outer (r.fst - r.snd.fst + 1) (r.fst + 1) := ⟨ho.goods, by omega, ⟨by omega, by omega⟩, by omega, by omega⟩
        have hpl := pieces_len outer (r.fst - r.snd.fst + 1) (r.fst + 1)
        have hpg : goods (pieces outer (r.fst - r.snd.fst + 1) (r.fst + 1)) := (pieces_spec outer _ _ ho.goods (by omega) (by
          unfold Go.AM.hi at hfr
          rw [show r.2.2 = r.snd.snd from rfl, hbk, if_pos rfl] at hfr
          omega) (by omega)).1
        rw [Bool.not_true, cond_false, wrap_id (i := r.fst - r.snd.fst) (by omega) (by omega), wrap_id (i := r.fst - r.snd.fst + 1) (by omega) (by omega), wrap_id (i := r.fst + 1) (by omega) (by omega), iso_each_piece_s k (by omega) outer _ _ ok, iso_each_piece_v k (by omega) outer _ _ ok, Option.isSome_some, if_pos rfl]
        rw [iso_reversed_s k (by omega) _ hpg (by omega) b hb (by omega), iso_reversed_v k (by omega) _ hpg (by omega) b hb (by omega), Option.isSome_some, if_pos rfl, wrapS i (by omega), ← es]
        exact ih (i + 1) _ (by omega) (by omega) hag (by omega)
    · rw [decide_eq_false (by omega : ¬ (i : Int) < (inner.length : Int)), cond_false, drop_all inner i (by omega)]
      rw [List.foldl_nil]
      by_cases hl : b.length > 256
      · have e : f_u26 k b = some (.inl 8) := by
          unfold f_u26; rw [decide_eq_true (by omega), cond_true]
        have ev : v_u26 k b = .inl 8 := by unfold v_u26; rw [e]; rfl
        have ea : vA_u26 k b = 8 := by unfold vA_u26; rw [ev]; rfl
        rw [ev, e, ea, if_pos hl]; rfl
      · have e : f_u26 k b = some (.inr 0) := by
          unfold f_u26; rw [decide_eq_false (by omega), cond_false]
        have ev : v_u26 k b = .inr 0 := by unfold v_u26; rw [e]; rfl
        have ea : vB_u26 k b = 0 := by unfold vB_u26; rw [ev]; rfl
        rw [ev, e, ea, if_neg hl]; rfl

theorem iso_Compose9_l (k : Nat) (hk : 700 ≤ k) (inner outer : List Rn) (hin : Chk inner) (ho : Chk outer) (hf0 : fitsIn (lenS outer) inner → ∀ j, inner.length < j → f_u19_16 k j outer inner (inner.length : Int) 0 [] = some (if (compS inner outer).length > 256 then ([], 8) else (compS inner outer, 0))) : ∀ (j i : Nat), i ≤ inner.length → inner.length - i + inner.length + 1 < j → fitsIn (lenS outer) (inner.take i) →
    f_u19_9 k j inner outer (lenS outer) inner (inner.length : Int) (i : Int) = some (if ¬ fitsIn (lenS outer) inner then ([], 21) else if (compS inner outer).length > 256 then ([], 8) else (compS inner outer, 0)) := by
  have hil := hin.len
  have fitapp : ∀ {n : Int} (a b : List Rn), fitsIn n (a ++ b) ↔ fitsIn n a ∧ fitsIn n b := fun {n} a b => by
    induction a with
    | nil => simp [fitsIn]
    | cons u v ih => simp only [List.cons_append, fitsIn, ih]; exact and_assoc.symm
  intro j
  induction j with
  | zero => intros; omega
  | succ j ih =>
    intro i hi hj hf
    rw [f_u19_9]
    by_cases h : i < inner.length
    · have hmem : inner.getD i T0.dflt ∈ inner := by simp [h]
      have hgr : good (inner.getD i T0.dflt) := hin.goods.mem _ hmem
      have htk := take_snoc inner i T0.dflt h
      have hdr := drop_cons' inner i T0.dflt h
      rw [decide_eq_true (by omega : (i : Int) < (inner.length : Int)), cond_true, if_pos ⟨by omega, by omega⟩, Int.toNat_natCast]
      generalize inner.getD i T0.dflt = r at hgr htk hdr
      have hgr' := hgr
      obtain ⟨g1, g2, g3, g4, _⟩ := hgr
      rw [wrap_id (i := r.snd.fst - 1) (by omega) (by omega), iso_image_s k r _ (by omega) (by omega) (by omega) (by omega), iso_image_v k r _ (by omega) (by omega) (by omega) (by omega), Option.isSome_some, if_pos rfl, max_ends hgr']
      by_cases hlt : Go.AM.hi r < lenS outer
      · rw [decide_eq_false (by omega : ¬ Go.AM.hi r ≥ lenS outer), cond_false, wrapS i (by omega)]
        exact ih (i + 1) (by omega) (by omega) (by rw [htk, fitapp]; exact ⟨hf, hlt, trivial⟩)
      · rw [decide_eq_true (by omega : Go.AM.hi r ≥ lenS outer), cond_true, if_pos]
        intro hfit
        have : inner = inner.take i ++ inner.drop i := (List.take_append_drop i inner).symm
        rw [this, fitapp, hdr] at hfit
        exact hlt hfit.2.1
    · have : inner.take i = inner := List.take_of_length_le (by omega)
      rw [this] at hf
      rw [decide_eq_false (by omega : ¬ (i : Int) < (inner.length : Int)), cond_false, if_neg (Classical.not_not.2 hf)]
      exact hf0 hf j (by omega)
theorem iso_Compose_s (k : Nat) (hk : 700 ≤ k) (inner outer : List Rn) : f_u19 k inner outer = some (comp inner outer) := by
  unfold f_u19 comp
  rw [iso_Check_s k (by omega), iso_Check_v k (by omega), iso_Check_s k (by omega), iso_Check_v k (by omega), Option.isSome_some, Option.isSome_some, if_pos rfl]
  by_cases h1 : chk inner = 0
  · rw [show (chk inner != 0) = false by simp [h1], cond_false, if_pos rfl, if_neg (fun h : chk inner ≠ 0 => h h1)]
    by_cases h2 : chk outer = 0
    · have c1 := chk_zero.1 h1
      have c2 := chk_zero.1 h2
      have l1 := c1.len
      have l2 := c2.len
      rw [show (chk outer != 0) = false by simp [h2], cond_false, if_neg (fun h : chk outer ≠ 0 => h h2), iso_length_s k outer c2.goods (by omega) (by omega), iso_length_v k outer c2.goods (by omega) (by omega), Option.isSome_some, if_pos rfl]
      exact iso_Compose9_l k hk inner outer c1 c2 (fun hf j hj => iso_Compose16_l k hk inner outer c1 c2 hf j 0 [] (by omega) (by omega) trivial (by simp)) k 0 (by omega) (by omega) (by simp [fitsIn])
    · rw [show (chk outer != 0) = true by simp [h2], cond_true, if_pos h2]
  · rw [show (chk inner != 0) = true by simp [h1], cond_true, if_pos h1]
theorem iso_Compose_v (k : Nat) (hk : 700 ≤ k) (inner outer : List Rn) : v_u19 k inner outer = comp inner outer := by
  unfold v_u19; rw [iso_Compose_s k hk]; rfl
end Go.AM
namespace Go.AM
open Go

/-- the run of an integer, and which integer of the run it is -/
def plc : List Rn → Int → Option (Rn × Int)
  | [], _ => none
  | r :: t, x => if x < r.2.1 then some (r, x) else plc t (x - r.2.1)

theorem plc_some : ∀ {m : List Rn} {x : Int}, goods m → 0 ≤ x → x < lenS m → ∃ o p, plc m x = some (o, p) ∧ good o ∧ 0 ≤ p ∧ p < o.2.1 ∧ p ≤ x ∧ imgAt m x = img o p
  | [], x, _, h0, h1 => by simp only [lenS] at h1; omega
  | r :: t, x, ⟨hr, ht⟩, h0, h1 => by
    simp only [lenS] at h1
    have hr1 := hr.1
    by_cases h : x < r.2.1
    · exact ⟨r, x, by unfold plc; rw [if_pos h], hr, h0, h, by omega, by unfold imgAt; rw [if_pos h]⟩
    · obtain ⟨o, p, h2, h3, h4, h5, h6, h7⟩ := plc_some (m := t) (x := x - r.2.1) ht (by omega) (by omega)
      exact ⟨o, p, by unfold plc; rw [if_neg h]; exact h2, h3, h4, h5, by omega, by unfold imgAt; rw [if_neg h]; exact h7⟩
theorem plc_none : ∀ {m : List Rn} {x : Int}, goods m → lenS m ≤ x → plc m x = none
  | [], x, _, _ => rfl
  | r :: t, x, ⟨hr, ht⟩, h => by
    simp only [lenS] at h
    have := hr.1
    have := lenS_nonneg ht
    unfold plc
    rw [if_neg (by omega)]
    exact plc_none ht (by omega)

theorem pieces_neg : ∀ (m : List Rn) (a a' b : Int), goods m → a ≤ 0 → a' ≤ 0 → pieces m a b = pieces m a' b
  | [], _, _, _, _, _, _ => rfl
  | r :: t, a, a', b, ⟨hr, ht⟩, h1, h2 => by
    have := hr.1
    unfold pieces
    rw [pieces_neg t (a - r.2.1) (a' - r.2.1) (b - r.2.1) ht (by omega) (by omega), show max a 0 = max a' 0 by omega]
theorem pieces_nil : ∀ (m : List Rn) (a b : Int), goods m → b ≤ max a 0 → pieces m a b = []
  | [], _, _, _, _ => rfl
  | r :: t, a, b, ⟨hr, ht⟩, h => by
    have := hr.1
    unfold pieces
    rw [if_neg (by omega), pieces_nil t _ _ ht (by omega)]; rfl

theorem pieces_fwd : ∀ (m : List Rn) (a b : Int) (o : Rn) (p : Int), goods m → 0 ≤ a → a < b → plc m a = some (o, p) → pieces m a b = prt o p (min (b - a) (o.2.1 - p)) :: pieces m (a + min (b - a) (o.2.1 - p)) b
  | [], a, b, o, p, _, _, _, h => by simp [plc] at h
  | r :: t, a, b, o, p, ⟨hr, ht⟩, h0, h1, h => by
    have hr1 := hr.1
    unfold plc at h
    by_cases hx : a < r.2.1
    · rw [if_pos hx] at h
      simp only [Option.some.injEq, Prod.mk.injEq] at h
      obtain ⟨rfl, rfl⟩ := h
      rw [pieces, if_pos (by omega), pieces, if_neg (by omega), List.nil_append, pieces_neg t (a - r.2.1) (a + min (b - a) (r.2.1 - a) - r.2.1) _ ht (by omega) (by omega)]
      rw [show max a 0 = a by omega, show min b r.2.1 - a = min (b - a) (r.2.1 - a) by omega]
      rfl
    · rw [if_neg hx] at h
      have ih := pieces_fwd t (a - r.2.1) (b - r.2.1) o p ht (by omega) (by omega) h
      have hp : 0 ≤ min (b - a) (o.2.1 - p) := by
        have : ∀ {m : List Rn} {x : Int} {o p}, plc m x = some (o, p) → p < o.2.1 := fun {m} => by
          induction m with
          | nil => intro x o p h; simp [plc] at h
          | cons u v ih =>
            intro x o p h
            unfold plc at h
            by_cases q : x < u.2.1
            · rw [if_pos q] at h; simp only [Option.some.injEq, Prod.mk.injEq] at h; obtain ⟨rfl, rfl⟩ := h; exact q
            · rw [if_neg q] at h; exact ih h
        have := this h
        omega
      rw [pieces, if_neg (by omega), List.nil_append, ih, pieces, if_neg (by omega), List.nil_append]
      rw [show b - r.2.1 - (a - r.2.1) = b - a by omega, show a - r.2.1 + min (b - a) (o.2.1 - p) = a + min (b - a) (o.2.1 - p) - r.2.1 by omega]

theorem plc_bd {m : List Rn} : ∀ {x : Int} {o p}, goods m → 0 ≤ x → plc m x = some (o, p) → good o ∧ 0 ≤ p ∧ p < o.2.1 ∧ p ≤ x := by
  induction m with
  | nil => intro x o p _ _ h; simp [plc] at h
  | cons u v ih =>
    intro x o p hg h0 h
    unfold plc at h
    by_cases q : x < u.2.1
    · rw [if_pos q] at h; simp only [Option.some.injEq, Prod.mk.injEq] at h; obtain ⟨rfl, rfl⟩ := h; exact ⟨hg.1, h0, q, Int.le_refl _⟩
    · rw [if_neg q] at h
      have := hg.1.1
      obtain ⟨a, b, c, d⟩ := ih hg.2 (by omega) h
      exact ⟨a, b, c, by omega⟩

theorem pieces_bwd : ∀ (m : List Rn) (l a : Int) (o : Rn) (p : Int), goods m → max l 0 ≤ a → plc m a = some (o, p) → pieces m l (a + 1) = pieces m l (a + 1 - min (a + 1 - max l 0) (p + 1)) ++ [prt o (p + 1 - min (a + 1 - max l 0) (p + 1)) (min (a + 1 - max l 0) (p + 1))]
  | [], l, a, o, p, _, _, h => by simp [plc] at h
  | r :: t, l, a, o, p, ⟨hr, ht⟩, h0, h => by
    have hr1 := hr.1
    unfold plc at h
    by_cases hx : a < r.2.1
    · rw [if_pos hx] at h
      simp only [Option.some.injEq, Prod.mk.injEq] at h
      obtain ⟨rfl, rfl⟩ := h
      rw [pieces, if_pos (by omega), pieces_nil t _ _ ht (by omega), pieces_nil (r :: t) _ _ ⟨hr, ht⟩ (by omega)]
      rw [show min (a + 1 - max l 0) (a + 1) = a + 1 - max l 0 by omega, show min (a + 1) r.2.1 - max l 0 = a + 1 - max l 0 by omega, show a + 1 - (a + 1 - max l 0) = max l 0 by omega]
      rfl
    · rw [if_neg hx] at h
      obtain ⟨_, q1, q2, q3⟩ := plc_bd ht (by omega) h
      have ih := pieces_bwd t (l - r.2.1) (a - r.2.1) o p ht (by omega) h
      have e : min (a - r.2.1 + 1 - max (l - r.2.1) 0) (p + 1) = min (a + 1 - max l 0) (p + 1) := by omega
      rw [e] at ih
      rw [pieces, show a + 1 - r.2.1 = a - r.2.1 + 1 by omega, ih, pieces, show a + 1 - min (a + 1 - max l 0) (p + 1) - r.2.1 = a - r.2.1 + 1 - min (a + 1 - max l 0) (p + 1) by omega]
      rw [show min (a + 1) r.2.1 = r.2.1 by omega, show min (a + 1 - min (a + 1 - max l 0) (p + 1)) r.2.1 = r.2.1 by omega, List.append_assoc]

/-- the way of an inner run, step by step -/
theorem steps_fwd {outer : List Rn} {r o : Rn} {p : Int} (ho : goods outer) (hr : 1 ≤ r.2.1) (h0 : 0 ≤ r.1) (hb : r.2.2 = false) (h : plc outer r.1 = some (o, p)) :
    steps outer r = prt o p (min r.2.1 (o.2.1 - p)) :: steps outer (r.1 + min r.2.1 (o.2.1 - p), r.2.1 - min r.2.1 (o.2.1 - p), false) := by
  unfold steps
  rw [hb, if_neg (by decide), if_neg (fun e : false = true => by cases e), pieces_fwd outer r.1 (r.1 + r.2.1) o p ho h0 (by omega) h]
  rw [show r.1 + r.2.1 - r.1 = r.2.1 by omega]
  show _ = _ :: pieces outer (r.1 + min r.2.1 (o.2.1 - p)) (r.1 + min r.2.1 (o.2.1 - p) + (r.2.1 - min r.2.1 (o.2.1 - p)))
  rw [show r.1 + min r.2.1 (o.2.1 - p) + (r.2.1 - min r.2.1 (o.2.1 - p)) = r.1 + r.2.1 by omega]
theorem steps_bwd {outer : List Rn} {r o : Rn} {p : Int} (ho : goods outer) (hr : 1 ≤ r.2.1) (h0 : 0 ≤ r.1 - r.2.1 + 1) (hb : r.2.2 = true) (h : plc outer r.1 = some (o, p)) :
    steps outer r = (img o p, min r.2.1 (p + 1), !o.2.2 && decide (min r.2.1 (p + 1) > 1)) :: steps outer (r.1 - min r.2.1 (p + 1), r.2.1 - min r.2.1 (p + 1), true) := by
  obtain ⟨_, q1, q2, q3⟩ := plc_bd ho (by omega) h
  have e := pieces_bwd outer (r.1 - r.2.1 + 1) r.1 o p ho (by omega) h
  rw [show r.1 + 1 - max (r.1 - r.2.1 + 1) 0 = r.2.1 by omega] at e
  unfold steps
  rw [hb, if_pos rfl, if_pos rfl, e, List.reverse_append, List.map_append]
  show _ = _ :: ((pieces outer (r.1 - min r.2.1 (p + 1) - (r.2.1 - min r.2.1 (p + 1)) + 1) (r.1 - min r.2.1 (p + 1) + 1)).reverse).map rvs1
  rw [show r.1 - min r.2.1 (p + 1) - (r.2.1 - min r.2.1 (p + 1)) + 1 = r.1 - r.2.1 + 1 by omega, show r.1 - min r.2.1 (p + 1) + 1 = r.1 + 1 - min r.2.1 (p + 1) by omega]
  have e2 : rvs1 (prt o (p + 1 - min r.2.1 (p + 1)) (min r.2.1 (p + 1))) = (img o p, min r.2.1 (p + 1), !o.2.2 && decide (min r.2.1 (p + 1) > 1)) := by
    generalize hn : min r.2.1 (p + 1) = n
    have hn1 : 1 ≤ n := by omega
    unfold rvs1
    show (img (prt o (p + 1 - n) n) (n - 1), n, !(o.2.2 && decide (n > 1)) && decide (n > 1)) = _
    rw [prt_img (by omega) (by omega), show p + 1 - n + (n - 1) = p by omega]
    congr 2
    cases o.2.2 <;> cases decide (n > 1) <;> rfl
  rw [show ([prt o (p + 1 - min r.2.1 (p + 1)) (min r.2.1 (p + 1))].reverse.map rvs1) = [rvs1 (prt o (p + 1 - min r.2.1 (p + 1)) (min r.2.1 (p + 1)))] from rfl, e2]
  rfl
theorem steps_nil (outer : List Rn) (ho : goods outer) (x : Int) (b : Bool) : steps outer (x, 0, b) = [] := by
  unfold steps
  cases b
  · rw [if_neg (by simp)]
    exact pieces_nil outer _ _ ho (by show x + 0 ≤ max x 0; omega)
  · rw [if_pos rfl, pieces_nil outer _ _ ho (by show x + 1 ≤ max (x - 0 + 1) 0; omega)]; rfl
/-! ### the reference's composition, and the images of single integers -/
/-- where an integer lies: by index -/
theorem ref13_place_l (k : Nat) (m : List Rn) (hg : goods m) (hm : m.length ≤ 300) : ∀ (j i : Nat) (x : Int), i ≤ m.length → m.length - i < j → 0 ≤ x → x ≤ 1125899906842624 →
    (∀ o p, plc (m.drop i) x = some (o, p) → ∃ q : Nat, q < m.length ∧ m.getD q T0.dflt = o ∧ f_u60_2 k j m x (i : Int) = some ((q : Int), p)) ∧
    (plc (m.drop i) x = none → f_u60_2 k j m x (i : Int) = some (-1, 0)) := by
  intro j
  induction j with
  | zero => intros; omega
  | succ j ih =>
    intro i x hi hj h0 h1
    rw [f_u60_2]
    by_cases h : i < m.length
    · have hgr : good (m.getD i T0.dflt) := hg.mem _ (by simp [h])
      have hgr1 := hgr.1
      have hgr2 := hgr.2.1
      rw [decide_eq_true (by omega : (i : Int) < (m.length : Int)), decide_eq_true (by omega : x ≥ 0), Bool.and_true, cond_true, if_pos ⟨by omega, by omega⟩, drop_cons' m i T0.dflt h, Int.toNat_natCast, plc]
      by_cases hx : x < (m.getD i T0.dflt).2.1
      · rw [decide_eq_true hx, cond_true, if_pos hx]
        refine ⟨fun o p e => ?_, fun e => by cases e⟩
        simp only [Option.some.injEq, Prod.mk.injEq] at e
        obtain ⟨e1, rfl⟩ := e
        exact ⟨i, h, e1, rfl⟩
      · rw [decide_eq_false hx, cond_false, if_neg hx, if_pos ⟨by omega, by omega⟩, wrap_id (by omega) (by omega), wrapS i (by omega)]
        exact ih (i + 1) _ (by omega) (by omega) (by omega) (by omega)
    · rw [decide_eq_false (by omega : ¬ (i : Int) < (m.length : Int)), Bool.false_and, cond_false, drop_all m i (by omega)]
      exact ⟨fun o p e => by simp [plc] at e, fun _ => rfl⟩
theorem ref13_place_s (k : Nat) (hk : 304 ≤ k) (m : List Rn) (hg : goods m) (hm : m.length ≤ 300) (x : Int) (h0 : 0 ≤ x) (h1 : x ≤ 1125899906842624) :
    (∀ o p, plc m x = some (o, p) → ∃ q : Nat, q < m.length ∧ m.getD q T0.dflt = o ∧ f_u60 k m x = some ((q : Int), p) ∧ v_u60 k m x = ((q : Int), p)) ∧
    (plc m x = none → f_u60 k m x = some (-1, 0) ∧ v_u60 k m x = (-1, 0)) := by
  obtain ⟨a, b⟩ := ref13_place_l k m hg hm k 0 x (by omega) (by omega) h0 h1
  refine ⟨fun o p e => ?_, fun e => ?_⟩
  · obtain ⟨q, q1, q2, q3⟩ := a o p e
    have q3 : f_u60 k m x = some ((q : Int), p) := q3
    exact ⟨q, q1, q2, q3, by unfold v_u60; rw [q3]; rfl⟩
  · have q3 : f_u60 k m x = some (-1, 0) := b e
    exact ⟨q3, by unfold v_u60; rw [q3]; rfl⟩

theorem min_if (a b : Int) : (if a < b then a else b) = min b a := by split <;> omega

/-- one run's steps, all of them -/
theorem ref13_Compose12_ok (k : Nat) (hk : 304 ≤ k) (inner outer : List Rn) (i : Int) (ho : Chk outer) : ∀ (n : Nat) (r : Rn) (out : List Rn) (j : Nat), (steps outer r).length = n → good r → hi r < lenS outer → goods out → out.length + n ≤ 100000000 →
    f_u50_12 k (j + n) inner outer out i r = f_u50_9 k j inner outer (adds out (steps outer r)) (IntKind.i64.wrap (i + 1)) := by
  have hol := ho.len
  have hot := ho.tot
  intro n
  induction n with
  | zero =>
    intro r out j hn hr hh hg hl
    have := (steps_spec outer r ho.goods hr hh).2.1
    have h2 := hr.1
    have h3 : steps outer r = [] := List.eq_nil_of_length_eq_zero hn
    rw [h3] at this
    have this : (0 : Int) = r.2.1 := this
    omega
  | succ n ih =>
    intro r out j hn hr hh hg hl
    have hr1 := hr.1
    obtain ⟨l1, l2, l3, l4⟩ := hr.lohi
    have hbd : 0 ≤ r.1 ∧ r.1 < lenS outer := by
      unfold Go.AM.hi at hh l2
      unfold lo at l1 l2
      cases hb : r.2.2 <;> rw [hb] at hh l1 l2 <;> simp only [Bool.false_eq_true, if_false, if_true] at hh l1 l2 <;> omega
    obtain ⟨o, p, e1, go, p0, p1, p2, _⟩ := plc_some ho.goods hbd.1 hbd.2
    obtain ⟨q, q1, q2, q3, q4⟩ := (ref13_place_s k hk outer ho.goods (by omega) r.1 hbd.1 (by omega)).1 o p e1
    have go' := go
    obtain ⟨g1, g2, g3, g4, _⟩ := go
    obtain ⟨w1, w2, w3, w4, _⟩ := hr
    rw [show j + (n + 1) = (j + n) + 1 by omega, f_u50_12]
    have q3' : f_u60 k outer r.fst = some ((q : Int), p) := q3
    have q4' : v_u60 k outer r.fst = ((q : Int), p) := q4
    rw [decide_eq_true (by omega : r.snd.fst > 0), cond_true, q3', q4', Option.isSome_some, if_pos rfl]
    show (bif decide ((q : Int) < 0) then _ else _) = _
    rw [decide_eq_false (by omega), cond_false]
    show (if (0 : Int) ≤ (q : Int) ∧ (q : Int) < (outer.length : Int) then _ else _) = _
    rw [if_pos ⟨by omega, by omega⟩]
    have q2' : outer.getD ((q : Int), p).fst.toNat T0.dflt = o := by show outer.getD ((q : Int)).toNat _ = o; rw [Int.toNat_natCast]; exact q2
    rw [q2']
    show (bif r.snd.snd then _ else _) = _
    simp only []
    rw [ref13_image_s k o p (by omega) (by omega) (by omega) (by omega), ref13_image_v k o p (by omega) (by omega) (by omega) (by omega)]
    rw [wrap_id (i := p + 1) (by omega) (by omega), wrap_id (i := o.snd.fst - p) (by omega) (by omega), min_if, min_if]
    cases hb : r.snd.snd with
    | true =>
      have hb : r.2.2 = true := hb
      rw [cond_true]
      have est := steps_bwd (outer := outer) (r := r) (o := o) (p := p) ho.goods hr1 (by unfold lo at l1; rw [hb, if_pos rfl] at l1; omega) hb e1
      obtain ⟨s1, s2, s3⟩ := steps_spec outer r ho.goods ⟨w1, w2, w3, w4, by assumption⟩ hh
      rw [est] at hn s1 ⊢
      have hp1 := s1.1
      have hlo : 0 ≤ r.1 - r.2.1 + 1 := by unfold lo at l1; rw [hb, if_pos rfl] at l1; exact l1
      have hhi : r.1 < lenS outer := hbd.2
      generalize hc : min r.2.1 (p + 1) = c at hn s1 est hp1 ⊢
      have hc1 : 1 ≤ c := by omega
      have hc2 : c ≤ r.2.1 := by omega
      rw [ref13_more_s k (by omega) out _ (by omega) hp1.bnd hg.bnds, ref13_more_v k (by omega) out _ (by omega) hp1.bnd hg.bnds, if_pos ⟨rfl, rfl⟩]
      have hag := (addS_spec out _ hg hp1).1
      have hal := addS_len out (img o p, c, !o.2.2 && decide (c > 1))
      have eadd : ∀ t, adds out ((img o p, c, !o.2.2 && decide (c > 1)) :: t) = adds (addS out (img o p, c, !o.2.2 && decide (c > 1))) t := fun _ => rfl
      rw [eadd]
      by_cases hlast : c = r.2.1
      · have hz : steps outer (r.1 - c, r.2.1 - c, true) = [] := by
          rw [show r.2.1 - c = 0 by omega]
          exact steps_nil outer ho.goods _ _
        rw [hz] at hn ⊢
        have : n = 0 := by simp at hn; omega
        subst this
        rw [show (c == r.snd.fst) = true by simp [hlast], cond_true]
        rfl
      · have ei : img r c = r.1 - c := by unfold img; rw [hb, if_pos rfl]
        rw [show (c == r.snd.fst) = false by exact beqf hlast, cond_false, ref13_image_s k r c (by omega) (by omega) (by omega) (by omega), ref13_image_v k r c (by omega) (by omega) (by omega) (by omega), Option.isSome_some, if_pos rfl, wrap_id (by omega) (by omega), ei]
        exact ih (r.1 - c, r.2.1 - c, true) _ j (by simpa using hn) (by
          rw [good_iff]
          refine ⟨by show 1 ≤ r.2.1 - c; omega, ?_, ?_⟩
          · show 0 ≤ (r.1 - c) - (r.2.1 - c) + 1; omega
          · show r.1 - c < 17179869184; omega) (by show r.1 - c < lenS outer; omega) hag (by omega)
    | false =>
      have hb : r.2.2 = false := hb
      rw [cond_false]
      have est := steps_fwd (outer := outer) (r := r) (o := o) (p := p) ho.goods hr1 hbd.1 hb e1
      obtain ⟨s1, s2, s3⟩ := steps_spec outer r ho.goods ⟨w1, w2, w3, w4, by assumption⟩ hh
      rw [est] at hn s1 ⊢
      have hp1 := s1.1
      have hhi : r.1 + r.2.1 - 1 < lenS outer := by unfold Go.AM.hi at hh; rw [hb, if_neg (by decide)] at hh; exact hh
      generalize hc : min r.2.1 (o.2.1 - p) = c at hn s1 est hp1 ⊢
      have hc1 : 1 ≤ c := by omega
      have hc2 : c ≤ r.2.1 := by omega
      have ep : (img o p, c, o.snd.snd && decide (c > 1)) = prt o p c := rfl
      rw [ep, ref13_more_s k (by omega) out _ (by omega) hp1.bnd hg.bnds, ref13_more_v k (by omega) out _ (by omega) hp1.bnd hg.bnds, if_pos ⟨rfl, rfl⟩]
      have hag := (addS_spec out _ hg hp1).1
      have hal := addS_len out (prt o p c)
      have eadd : ∀ t, adds out (prt o p c :: t) = adds (addS out (prt o p c)) t := fun _ => rfl
      rw [eadd]
      by_cases hlast : c = r.2.1
      · have hz : steps outer (r.1 + c, r.2.1 - c, false) = [] := by
          rw [show r.2.1 - c = 0 by omega]
          exact steps_nil outer ho.goods _ _
        rw [hz] at hn ⊢
        have : n = 0 := by simp at hn; omega
        subst this
        rw [show (c == r.snd.fst) = true by simp [hlast], cond_true]
        rfl
      · have ei : img r c = r.1 + c := by unfold img; rw [hb, if_neg (by decide)]
        rw [show (c == r.snd.fst) = false by exact beqf hlast, cond_false, ref13_image_s k r c (by omega) (by omega) (by omega) (by omega), ref13_image_v k r c (by omega) (by omega) (by omega) (by omega), Option.isSome_some, if_pos rfl, wrap_id (by omega) (by omega), ei]
        exact ih (r.1 + c, r.2.1 - c, false) _ j (by simpa using hn) (by
          rw [good_iff]
          refine ⟨by show 1 ≤ r.2.1 - c; omega, ?_, ?_⟩
          · show 0 ≤ r.1 + c; omega
          · show r.1 + c + (r.2.1 - c) - 1 < 17179869184; omega) (by show r.1 + c + (r.2.1 - c) - 1 < lenS outer; omega) hag (by omega)
/-- a run that leaves the outer map -/
theorem ref13_Compose12_bad (k : Nat) (hk : 304 ≤ k) (inner outer : List Rn) (i : Int) (ho : Chk outer) : ∀ (n : Nat) (r : Rn) (out : List Rn) (j : Nat), (r.1 < lenS outer → (pieces outer r.1 (lenS outer)).length ≤ n) → good r → lenS outer ≤ hi r → goods out → out.length + n ≤ 100000000 →
    f_u50_12 k (j + n + 1) inner outer out i r = some ([], 21) := by
  have hol := ho.len
  have hot := ho.tot
  intro n
  induction n with
  | zero =>
    intro r out j hn hr hh hg hl
    obtain ⟨w1, w2, w3, w4, _⟩ := hr
    have hge : lenS outer ≤ r.1 := by
      rcases Int.lt_or_le r.1 (lenS outer) with h | h
      · have := hn h
        obtain ⟨o, p, e1, _⟩ := plc_some ho.goods w3 h
        rw [pieces_fwd outer r.1 (lenS outer) o p ho.goods w3 h e1] at this
        simp at this
      · exact h
    obtain ⟨q3, q4⟩ := (ref13_place_s k hk outer ho.goods (by omega) r.1 w3 (by omega)).2 (plc_none ho.goods hge)
    rw [f_u50_12]
    have q3' : f_u60 k outer r.fst = some (-1, 0) := q3
    have q4' : v_u60 k outer r.fst = (-1, 0) := q4
    rw [decide_eq_true (by omega : r.snd.fst > 0), cond_true, q3', q4', Option.isSome_some, if_pos rfl]
    rfl
  | succ n ih =>
    intro r out j hn hr hh hg hl
    have hr1 := hr.1
    have hr0 := hr
    obtain ⟨w1, w2, w3, w4, _⟩ := hr
    rcases Int.lt_or_le r.1 (lenS outer) with hlt | hge
    · -- forward
      have hb : r.2.2 = false := by
        cases hb : r.2.2 with
        | false => rfl
        | true => unfold Go.AM.hi at hh; rw [hb, if_pos rfl] at hh; omega
      have hh2 : lenS outer ≤ r.1 + r.2.1 - 1 := by unfold Go.AM.hi at hh; rw [hb, if_neg (by decide)] at hh; exact hh
      obtain ⟨o, p, e1, go, p0, p1, p2, _⟩ := plc_some ho.goods w3 hlt
      obtain ⟨q, q1, q2, q3, q4⟩ := (ref13_place_s k hk outer ho.goods (by omega) r.1 w3 (by omega)).1 o p e1
      have hpc := pieces_fwd outer r.1 (lenS outer) o p ho.goods w3 hlt e1
      have hlen := (pieces_spec outer r.1 (lenS outer) ho.goods hlt (Int.le_refl _) (by omega))
      have hn' := hn hlt
      rw [hpc] at hn' hlen
      have hpl : min (lenS outer - r.1) (o.2.1 - p) = o.2.1 - p := by
        have h1 := hlen.2.1
        have h2 := lenS_nonneg hlen.1.2
        simp only [lenS] at h1
        have h3 : (prt o p (min (lenS outer - r.fst) (o.snd.fst - p))).2.1 = min (lenS outer - r.fst) (o.snd.fst - p) := rfl
        rw [h3] at h1
        have h4 : ∀ {m : List Rn} {x : Int} {o p}, goods m → plc m x = some (o, p) → o.2.1 - p ≤ lenS m - x := fun {m} => by
          induction m with
          | nil => intro x o p _ h; simp [plc] at h
          | cons u v ih =>
            intro x o p hg h
            unfold plc at h
            have hv := lenS_nonneg hg.2
            by_cases q : x < u.2.1
            · rw [if_pos q] at h; simp only [Option.some.injEq, Prod.mk.injEq] at h; obtain ⟨rfl, rfl⟩ := h; simp only [lenS]; omega
            · rw [if_neg q] at h
              have := ih hg.2 h
              simp only [lenS]; omega
        have := h4 ho.goods e1
        omega
      rw [hpl] at hn' hlen
      obtain ⟨g1, g2, g3, g4, _⟩ := go
      rw [show j + (n + 1) + 1 = (j + n + 1) + 1 by omega, f_u50_12]
      have q3' : f_u60 k outer r.fst = some ((q : Int), p) := q3
      have q4' : v_u60 k outer r.fst = ((q : Int), p) := q4
      rw [decide_eq_true (by omega : r.snd.fst > 0), cond_true, q3', q4', Option.isSome_some, if_pos rfl]
      show (bif decide ((q : Int) < 0) then _ else _) = _
      rw [decide_eq_false (by omega), cond_false]
      show (if (0 : Int) ≤ (q : Int) ∧ (q : Int) < (outer.length : Int) then _ else _) = _
      rw [if_pos ⟨by omega, by omega⟩]
      have q2' : outer.getD ((q : Int), p).fst.toNat T0.dflt = o := by show outer.getD ((q : Int)).toNat _ = o; rw [Int.toNat_natCast]; exact q2
      rw [q2']
      show (bif r.snd.snd then _ else _) = _
      simp only []
      rw [ref13_image_s k o p (by omega) (by omega) (by omega) (by omega), ref13_image_v k o p (by omega) (by omega) (by omega) (by omega)]
      rw [wrap_id (i := p + 1) (by omega) (by omega), wrap_id (i := o.snd.fst - p) (by omega) (by omega), min_if, min_if]
      rw [show r.snd.snd = false from hb, cond_false, show min r.snd.fst (o.snd.fst - p) = o.snd.fst - p by omega]
      have ep : (img o p, o.snd.fst - p, o.snd.snd && decide (o.snd.fst - p > 1)) = prt o p (o.snd.fst - p) := rfl
      have hp1 : good (prt o p (o.snd.fst - p)) := hlen.1.1
      have hag := (addS_spec out _ hg hp1).1
      have hal := addS_len out (prt o p (o.snd.fst - p))
      rw [ep, ref13_more_s k (by omega) out _ (by omega) hp1.bnd hg.bnds, ref13_more_v k (by omega) out _ (by omega) hp1.bnd hg.bnds, if_pos ⟨rfl, rfl⟩]
      have ei : img r (o.snd.fst - p) = r.1 + (o.snd.fst - p) := by unfold img; rw [hb, if_neg (by decide)]
      have h2 : o.2.1 - p ≤ lenS outer - r.1 := by omega
      rw [show (o.snd.fst - p == r.snd.fst) = false by exact beqf (by omega), cond_false, ref13_image_s k r _ (by omega) (by omega) (by omega) (by omega), ref13_image_v k r _ (by omega) (by omega) (by omega) (by omega), Option.isSome_some, if_pos rfl, wrap_id (by omega) (by omega), ei]
      refine ih (r.1 + (o.snd.fst - p), r.2.1 - (o.snd.fst - p), false) _ j (fun _ => by simpa using hn') ?_ ?_ hag (by omega)
      · have := hr0.lohi
        unfold lo Go.AM.hi at this
        rw [hb] at this
        simp only [Bool.false_eq_true, if_false] at this
        rw [good_iff]
        refine ⟨by show 1 ≤ r.2.1 - (o.snd.fst - p); omega, ?_, ?_⟩
        · show 0 ≤ r.1 + (o.snd.fst - p); omega
        · show r.1 + (o.snd.fst - p) + (r.2.1 - (o.snd.fst - p)) - 1 < 17179869184; omega
      · show lenS outer ≤ r.1 + (o.snd.fst - p) + (r.2.1 - (o.snd.fst - p)) - 1
        omega
    · obtain ⟨q3, q4⟩ := (ref13_place_s k hk outer ho.goods (by omega) r.1 w3 (by omega)).2 (plc_none ho.goods hge)
      rw [f_u50_12]
      have q3' : f_u60 k outer r.fst = some (-1, 0) := q3
      have q4' : v_u60 k outer r.fst = (-1, 0) := q4
      rw [decide_eq_true (by omega : r.snd.fst > 0), cond_true, q3', q4', Option.isSome_some, if_pos rfl]
      rfl

theorem fitsIn.mem {n : Int} : ∀ {l : List Rn}, fitsIn n l → ∀ r ∈ l, hi r < n
  | [], _, r, hr => by simp at hr
  | u :: v, ⟨h1, h2⟩, r, hr => by
    rcases List.mem_cons.1 hr with rfl | hr
    · exact h1
    · exact fitsIn.mem h2 r hr
set_option maxRecDepth 20000 in
theorem ref13_Compose9_l (k : Nat) (hk : 304 ≤ k) (inner outer : List Rn) (hin : Chk inner) (ho : Chk outer) : ∀ (d i : Nat) (out : List Rn) (j : Nat), inner.length - i = d → i ≤ inner.length → goods out → out.length ≤ i * 256 → d * 258 < j →
    f_u50_9 k j inner outer out (i : Int) = some (if ¬ fitsIn (lenS outer) (inner.drop i) then ([], 21) else if ((inner.drop i).foldl (fun b r => adds b (steps outer r)) out).length > 256 then ([], 8) else ((inner.drop i).foldl (fun b r => adds b (steps outer r)) out, 0)) := by
  have hil := hin.len
  have hol := ho.len
  intro d
  induction d with
  | zero =>
    intro i out j hd hi hg hl hj
    obtain ⟨j, rfl⟩ : ∃ m, j = m + 1 := ⟨j - 1, by omega⟩
    rw [f_u50_9, decide_eq_false (by omega : ¬ (i : Int) < (inner.length : Int)), cond_false, drop_all inner i (by omega), List.foldl_nil, if_neg (fun h : ¬ fitsIn (lenS outer) [] => h trivial)]
    by_cases h : out.length > 256
    · have e : f_u58 k out = some ([], 8) := by
        unfold f_u58; rw [decide_eq_true (by omega), cond_true]
      have ev : v_u58 k out = ([], 8) := by unfold v_u58; rw [e]; rfl
      rw [e, ev, if_pos h]; rfl
    · have e : f_u58 k out = some (out, 0) := by
        unfold f_u58; rw [decide_eq_false (by omega), cond_false]
      have ev : v_u58 k out = (out, 0) := by unfold v_u58; rw [e]; rfl
      rw [e, ev, if_neg h]; rfl
  | succ d ih =>
    intro i out j hd hi hg hl hj
    obtain ⟨j, rfl⟩ : ∃ m, j = m + 1 := ⟨j - 1, by omega⟩
    have h : i < inner.length := by omega
    have hmem : inner.getD i T0.dflt ∈ inner := by simp [h]
    have hgr : good (inner.getD i T0.dflt) := hin.goods.mem _ hmem
    rw [f_u50_9, decide_eq_true (by omega : (i : Int) < (inner.length : Int)), cond_true, if_pos ⟨by omega, by omega⟩, drop_cons' inner i T0.dflt h, Int.toNat_natCast]
    generalize inner.getD i T0.dflt = r at hgr
    rw [List.foldl_cons]
    have hsl := steps_len outer r
    have hal := adds_len (steps outer r) out
    rcases Int.lt_or_le (Go.AM.hi r) (lenS outer) with hh | hh
    · obtain ⟨s1, s2, s3⟩ := steps_spec outer r ho.goods hgr hh
      obtain ⟨j', rfl⟩ : ∃ m, j = m + (steps outer r).length := ⟨j - (steps outer r).length, by omega⟩
      have hb1 : (adds out (steps outer r)).length ≤ (i + 1) * 256 := by omega
      have hb2 : d * 258 < j' := by omega
      have e1 := ref13_Compose12_ok k hk inner outer (i : Int) ho (steps outer r).length r out j' rfl hgr hh hg (by omega)
      have e2 := ih (i + 1) (adds out (steps outer r)) j' (by omega) (by omega) (adds_spec _ out hg s1).1 hb1 hb2
      rw [e1, wrapS i (by omega), e2]
      by_cases hf : fitsIn (lenS outer) (inner.drop (i + 1))
      · rw [if_neg (fun h : ¬ fitsIn (lenS outer) (inner.drop (i + 1)) => h hf), if_neg (fun h : ¬ fitsIn (lenS outer) (r :: inner.drop (i + 1)) => h ⟨hh, hf⟩)]
      · rw [if_pos hf, if_pos (fun h : fitsIn (lenS outer) (r :: inner.drop (i + 1)) => hf h.2)]
    · have hpl : (pieces outer r.1 (lenS outer)).length ≤ 256 := by have := pieces_len outer r.1 (lenS outer); omega
      obtain ⟨j', rfl⟩ : ∃ m, j = m + 256 + 1 := ⟨j - 257, by omega⟩
      have e1 := ref13_Compose12_bad k hk inner outer (i : Int) ho 256 r out j' (fun _ => hpl) hgr hh hg (by omega)
      rw [e1, if_pos (fun h : fitsIn (lenS outer) (r :: inner.drop (i + 1)) => by have := h.1; omega)]
theorem ref13_Compose_s (k : Nat) (hk : 70000 ≤ k) (inner outer : List Rn) : f_u50 k inner outer = some (comp inner outer) := by
  unfold f_u50 comp
  rw [ref13_Check_s k (by omega), ref13_Check_v k (by omega), ref13_Check_s k (by omega), ref13_Check_v k (by omega), Option.isSome_some, Option.isSome_some, if_pos rfl]
  by_cases h1 : chk inner = 0
  · rw [show (chk inner != 0) = false by simp [h1], cond_false, if_pos rfl, if_neg (fun h : chk inner ≠ 0 => h h1)]
    by_cases h2 : chk outer = 0
    · have c1 := chk_zero.1 h1
      have c2 := chk_zero.1 h2
      have l1 := c1.len
      rw [show (chk outer != 0) = false by simp [h2], cond_false, if_neg (fun h : chk outer ≠ 0 => h h2)]
      have := ref13_Compose9_l k (by omega) inner outer c1 c2 inner.length 0 [] k (by omega) (by omega) trivial (by simp) (by omega)
      exact this
    · rw [show (chk outer != 0) = true by simp [h2], cond_true, if_pos h2]
  · rw [show (chk inner != 0) = true by simp [h1], cond_true, if_pos h1]
theorem ref13_Compose_v (k : Nat) (hk : 70000 ≤ k) (inner outer : List Rn) : v_u50 k inner outer = comp inner outer := by
  unfold v_u50; rw [ref13_Compose_s k hk]; rfl

end Go.AM
namespace Go.AM
open Go

theorem asc_of_pairwise : ∀ (l : List Sp) (b : Int), (∀ s ∈ l, b ≤ s.1) → l.Pairwise (fun x y => x.1 ≤ y.1) → Asc b l
  | [], _, _, _ => trivial
  | s :: t, b, h, hp => by
    obtain ⟨h1, h2⟩ := List.pairwise_cons.1 hp
    exact ⟨h s (by simp), asc_of_pairwise t s.1 (fun u hu => h1 u hu) h2⟩

/-- the normal form -/
def nf (l : List Sp) : List Sp := jn0 (sortSP l)

theorem In.small {l : List Sp} (h : In 0 17179869184 l) : ∀ x ∈ l, SmallI x.1 := fun x hx => by
  obtain ⟨a, b, c⟩ := h.mem x hx
  exact ⟨a, by omega⟩
theorem nf_asc {l : List Sp} (h : In 0 17179869184 l) : Asc 0 (sortSP l) :=
  asc_of_pairwise _ 0 (fun s hs => (h.mem s ((perm_sortSP h.small).mem_iff.1 hs)).1) sorted_sortSP
theorem nf_nr {l : List Sp} (h : In 0 17179869184 l) : Nr (-1) (nf l) := jn0_nr _ _ (nf_asc h)
theorem nf_has {l : List Sp} (h : In 0 17179869184 l) (x : Int) : has (nf l) x ↔ has l x := by
  unfold nf
  rw [jn0_has _ 0 x (nf_asc h), has_perm (perm_sortSP h.small)]
theorem nf_in {l : List Sp} (h : In 0 17179869184 l) : In 0 17179869184 (nf l) :=
  jn0_in _ (In.of fun s hs => h.mem s ((perm_sortSP h.small).mem_iff.1 hs))
theorem nf_len {l : List Sp} (h : In 0 17179869184 l) : (nf l).length ≤ l.length := by
  have := jn0_len (sortSP l)
  rw [(perm_sortSP h.small).length_eq] at this
  exact this
theorem nf_uniq {l m : List Sp} (h : In 0 17179869184 l) (hm : Nr (-1) m) (he : ∀ x, has m x ↔ has l x) : m = nf l :=
  Nr.uniq hm (nf_nr h) fun x => (he x).trans (nf_has h x).symm
theorem nf_self {l : List Sp} (h : In 0 17179869184 l) (hn : Nr (-1) l) : nf l = l := (nf_uniq h hn fun _ => Iff.rfl).symm

/-- the error of a list of spans -/
def chkS (l : List Sp) : Int := if l.length > 256 then 8 else if l.all (fun s => decide (0 ≤ s.1 ∧ s.1 ≤ s.2 ∧ s.2 ≤ 17179869184)) = true then 0 else 1
theorem chkS_zero {l : List Sp} : chkS l = 0 ↔ l.length ≤ 256 ∧ In 0 17179869184 l := by
  unfold chkS
  constructor
  · intro h
    by_cases h1 : l.length > 256
    · rw [if_pos h1] at h; omega
    · rw [if_neg h1] at h
      by_cases h2 : l.all (fun s => decide (0 ≤ s.1 ∧ s.1 ≤ s.2 ∧ s.2 ≤ 17179869184)) = true
      · exact ⟨by omega, In.of fun s hs => of_decide_eq_true (List.all_eq_true.1 h2 s hs)⟩
      · rw [if_neg h2] at h; omega
  · rintro ⟨h1, h2⟩
    rw [if_neg (by omega), if_pos (List.all_eq_true.2 fun s hs => decide_eq_true (h2.mem s hs))]

/-- the normal form of a list of spans, or its error -/
def normS (l : List Sp) : List Sp × Int := if chkS l ≠ 0 then ([], chkS l) else (nf l, 0)
def totalS (l : List Sp) : Int × Int := if chkS l ≠ 0 then (0, chkS l) else (tot (nf l), 0)

end Go.AM
namespace Go.AM
open Go

/-! ### the reference's way to the normal form -/
def ins : List Int → Int → List Int
  | [], n => [n]
  | x :: t, n => if x < n then x :: ins t n else if x = n then x :: t else n :: x :: t
theorem ins_mem : ∀ (l : List Int) (n x : Int), x ∈ ins l n ↔ x = n ∨ x ∈ l
  | [], n, x => by simp [ins]
  | y :: t, n, x => by
    unfold ins
    by_cases h : y < n
    · rw [if_pos h]; simp only [List.mem_cons, ins_mem t n x]
      constructor
      · rintro (h | h | h) <;> simp [h]
      · rintro (h | h | h) <;> simp [h]
    · rw [if_neg h]
      by_cases h2 : y = n
      · rw [if_pos h2]; simp only [List.mem_cons]; subst h2
        constructor
        · intro h; exact .inr h
        · rintro (h | h)
          · exact .inl h
          · exact h
      · rw [if_neg h2]; simp
theorem ins_sorted : ∀ (l : List Int) (n : Int), l.Pairwise (· < ·) → (ins l n).Pairwise (· < ·)
  | [], n, _ => by simp [ins]
  | y :: t, n, hp => by
    obtain ⟨h1, h2⟩ := List.pairwise_cons.1 hp
    unfold ins
    by_cases h : y < n
    · rw [if_pos h]
      refine List.pairwise_cons.2 ⟨fun x hx => ?_, ins_sorted t n h2⟩
      rcases (ins_mem t n x).1 hx with rfl | hx
      · exact h
      · exact h1 x hx
    · rw [if_neg h]
      by_cases h2 : y = n
      · rw [if_pos h2]; exact hp
      · rw [if_neg h2]
        refine List.pairwise_cons.2 ⟨fun x hx => ?_, hp⟩
        rcases List.mem_cons.1 hx with rfl | hx
        · omega
        · have := h1 x hx; omega
theorem ins_len : ∀ (l : List Int) (n : Int), (ins l n).length ≤ l.length + 1
  | [], n => by simp [ins]
  | y :: t, n => by
    unfold ins
    split
    · have := ins_len t n; simp; omega
    · split <;> simp

def cutsF : List Int → List Sp → List Int
  | acc, [] => acc
  | acc, s :: t => cutsF (ins (ins acc s.1) s.2) t
theorem cutsF_mem : ∀ (l : List Sp) (acc : List Int) (x : Int), x ∈ cutsF acc l ↔ x ∈ acc ∨ ∃ s ∈ l, x = s.1 ∨ x = s.2
  | [], acc, x => by simp [cutsF]
  | s :: t, acc, x => by
    rw [cutsF, cutsF_mem t, ins_mem, ins_mem]
    simp only [List.mem_cons]
    constructor
    · rintro ((h | h | h) | ⟨u, hu, h⟩)
      · exact .inr ⟨s, .inl rfl, .inr h⟩
      · exact .inr ⟨s, .inl rfl, .inl h⟩
      · exact .inl h
      · exact .inr ⟨u, .inr hu, h⟩
    · rintro (h | ⟨u, rfl | hu, h | h⟩)
      · exact .inl (.inr (.inr h))
      · exact .inl (.inr (.inl h))
      · exact .inl (.inl h)
      · exact .inr ⟨u, hu, .inl h⟩
      · exact .inr ⟨u, hu, .inr h⟩
theorem cutsF_sorted : ∀ (l : List Sp) (acc : List Int), acc.Pairwise (· < ·) → (cutsF acc l).Pairwise (· < ·)
  | [], acc, h => h
  | s :: t, acc, h => cutsF_sorted t _ (ins_sorted _ _ (ins_sorted _ _ h))
theorem cutsF_len : ∀ (l : List Sp) (acc : List Int), (cutsF acc l).length ≤ acc.length + 2 * l.length
  | [], acc => by simp [cutsF]
  | s :: t, acc => by
    have h1 := cutsF_len t (ins (ins acc s.1) s.2)
    have h2 := ins_len (ins acc s.1) s.2
    have h3 := ins_len acc s.1
    rw [cutsF]; simp only [List.length_cons]; omega

def hasB (l : List Sp) (x : Int) : Bool := l.any fun s => decide (s.1 ≤ x) && decide (x < s.2)
theorem hasB_iff (l : List Sp) (x : Int) : hasB l x = true ↔ has l x := by
  rw [has_iff]
  unfold hasB
  simp only [List.any_eq_true, Bool.and_eq_true, decide_eq_true_eq]

def cmb1 (a : List Sp) : Sp → List Int → List Sp
  | c, x :: y :: t => if hasB a x = true then (if c.2 = x then cmb1 a (c.1, y) (y :: t) else c :: cmb1 a (x, y) (y :: t)) else cmb1 a c (y :: t)
  | c, _ => [c]
def cmb0 (a : List Sp) : List Int → List Sp
  | x :: y :: t => if hasB a x = true then cmb1 a (x, y) (y :: t) else cmb0 a (y :: t)
  | _ => []
/-- between two neighbours of the list, the first of which is in the set -/
def seg (a : List Sp) : List Int → Int → Prop
  | x :: y :: t, z => (hasB a x = true ∧ x ≤ z ∧ z < y) ∨ seg a (y :: t) z
  | _, _ => False

theorem cmb1_nr (a : List Sp) : ∀ (l : List Int) (c : Sp) (b : Int), b < c.1 → c.1 < c.2 → l.Pairwise (· < ·) → (∀ x ∈ l, c.2 ≤ x) → Nr b (cmb1 a c l)
  | [], c, b, h1, h2, _, _ => ⟨h1, h2, trivial⟩
  | [x], c, b, h1, h2, _, _ => ⟨h1, h2, trivial⟩
  | x :: y :: t, c, b, h1, h2, hp, hc => by
    obtain ⟨p1, p2⟩ := List.pairwise_cons.1 hp
    have hxy := p1 y (by simp)
    have hcx := hc x (by simp)
    have hyt : ∀ u ∈ y :: t, y ≤ u := fun u hu => by
      rcases List.mem_cons.1 hu with rfl | hu
      · exact Int.le_refl _
      · have := (List.pairwise_cons.1 p2).1 u hu; omega
    unfold cmb1
    by_cases q : hasB a x = true
    · rw [if_pos q]
      by_cases q2 : c.2 = x
      · rw [if_pos q2]; exact cmb1_nr a (y :: t) (c.1, y) b h1 (by show c.1 < y; omega) p2 hyt
      · rw [if_neg q2]; exact ⟨h1, h2, cmb1_nr a (y :: t) (x, y) c.2 (by show c.2 < x; omega) hxy p2 hyt⟩
    · rw [if_neg q]; exact cmb1_nr a (y :: t) c b h1 h2 p2 fun u hu => by have := hyt u hu; omega
theorem cmb1_has (a : List Sp) : ∀ (l : List Int) (c : Sp) (z : Int), l.Pairwise (· < ·) → (∀ x ∈ l, c.2 ≤ x) → c.1 < c.2 → (has (cmb1 a c l) z ↔ (c.1 ≤ z ∧ z < c.2) ∨ seg a l z)
  | [], c, z, _, _, _ => by simp [cmb1, has, seg]
  | [x], c, z, _, _, _ => by simp [cmb1, has, seg]
  | x :: y :: t, c, z, hp, hc, h2 => by
    obtain ⟨p1, p2⟩ := List.pairwise_cons.1 hp
    have hxy := p1 y (by simp)
    have hcx := hc x (by simp)
    have hyt : ∀ u ∈ y :: t, y ≤ u := fun u hu => by
      rcases List.mem_cons.1 hu with rfl | hu
      · exact Int.le_refl _
      · have := (List.pairwise_cons.1 p2).1 u hu; omega
    unfold cmb1 seg
    by_cases q : hasB a x = true
    · rw [if_pos q]
      by_cases q2 : c.2 = x
      · rw [if_pos q2, cmb1_has a (y :: t) (c.1, y) z p2 hyt (by show c.1 < y; omega)]
        constructor
        · rintro (h | h)
          · have h : c.1 ≤ z ∧ z < y := h
            by_cases q3 : z < c.2
            · exact .inl ⟨h.1, q3⟩
            · exact .inr (.inl ⟨q, by omega, h.2⟩)
          · exact .inr (.inr h)
        · rintro (h | ⟨_, h⟩ | h)
          · exact .inl ⟨h.1, by show z < y; omega⟩
          · exact .inl ⟨by show c.1 ≤ z; omega, h.2⟩
          · exact .inr h
      · rw [if_neg q2]
        show (c.1 ≤ z ∧ z < c.2) ∨ has (cmb1 a (x, y) (y :: t)) z ↔ _
        rw [cmb1_has a (y :: t) (x, y) z p2 hyt hxy]
        constructor
        · rintro (h | h | h)
          · exact .inl h
          · exact .inr (.inl ⟨q, h⟩)
          · exact .inr (.inr h)
        · rintro (h | ⟨_, h⟩ | h)
          · exact .inl h
          · exact .inr (.inl h)
          · exact .inr (.inr h)
    · rw [if_neg q, cmb1_has a (y :: t) c z p2 (fun u hu => by have := hyt u hu; omega) h2]
      constructor
      · rintro (h | h)
        · exact .inl h
        · exact .inr (.inr h)
      · rintro (h | ⟨h, _⟩ | h)
        · exact .inl h
        · exact absurd h q
        · exact .inr h
theorem cmb0_nr (a : List Sp) : ∀ (l : List Int) (b : Int), l.Pairwise (· < ·) → (∀ x ∈ l, b < x) → Nr b (cmb0 a l)
  | [], b, _, _ => trivial
  | [x], b, _, _ => trivial
  | x :: y :: t, b, hp, hb => by
    obtain ⟨p1, p2⟩ := List.pairwise_cons.1 hp
    have hxy := p1 y (by simp)
    have hyt : ∀ u ∈ y :: t, y ≤ u := fun u hu => by
      rcases List.mem_cons.1 hu with rfl | hu
      · exact Int.le_refl _
      · have := (List.pairwise_cons.1 p2).1 u hu; omega
    unfold cmb0
    by_cases q : hasB a x = true
    · rw [if_pos q]; exact cmb1_nr a (y :: t) (x, y) b (hb x (by simp)) hxy p2 hyt
    · rw [if_neg q]; exact cmb0_nr a (y :: t) b p2 fun u hu => hb u (by simp [hu])
theorem cmb0_has (a : List Sp) : ∀ (l : List Int) (z : Int), l.Pairwise (· < ·) → (has (cmb0 a l) z ↔ seg a l z)
  | [], z, _ => Iff.rfl
  | [x], z, _ => Iff.rfl
  | x :: y :: t, z, hp => by
    obtain ⟨p1, p2⟩ := List.pairwise_cons.1 hp
    have hxy := p1 y (by simp)
    have hyt : ∀ u ∈ y :: t, y ≤ u := fun u hu => by
      rcases List.mem_cons.1 hu with rfl | hu
      · exact Int.le_refl _
      · have := (List.pairwise_cons.1 p2).1 u hu; omega
    unfold cmb0 seg
    by_cases q : hasB a x = true
    · rw [if_pos q, cmb1_has a (y :: t) (x, y) z p2 hyt hxy]
      constructor
      · rintro (h | h)
        · exact .inl ⟨q, h⟩
        · exact .inr h
      · rintro (⟨_, h⟩ | h)
        · exact .inl h
        · exact .inr h
    · rw [if_neg q, cmb0_has a (y :: t) z p2]
      exact ⟨.inr, fun h => h.elim (fun h => absurd h.1 q) id⟩

/-- the neighbours about z -/
theorem seg_has (a : List Sp) (h0 : ∀ s ∈ a, s.1 ≤ s.2) : ∀ (l : List Int) (z : Int), l.Pairwise (· < ·) → (∀ s ∈ a, s.1 ≤ z → z < s.2 → (s.2 ∈ l ∧ (s.1 ∈ l ∨ ∀ x ∈ l, s.1 ≤ x))) → (∀ s ∈ a, ∀ x ∈ l, s.1 ≤ x → x < s.2 → s.2 ∈ l) → (∀ x ∈ l, z < x) ∨ (seg a l z ↔ has a z)
  | [], z, _, h, _ => .inl (by simp)
  | [x], z, _, h, _ => by
    by_cases hz : z < x
    · left; simpa using hz
    · right
      refine ⟨fun h => h.elim, fun hh => ?_⟩
      obtain ⟨s, hs, h1, h2⟩ := (has_iff a z).1 hh
      obtain ⟨k1, k2⟩ := h s hs h1 h2
      have : s.2 = x := by simpa using k1
      omega
  | x :: y :: t, z, hp, h, h' => by
    obtain ⟨p1, p2⟩ := List.pairwise_cons.1 hp
    have hxy := p1 y (by simp)
    have hyt : ∀ u ∈ y :: t, y ≤ u := fun u hu => by
      rcases List.mem_cons.1 hu with rfl | hu
      · exact Int.le_refl _
      · have := (List.pairwise_cons.1 p2).1 u hu; omega
    by_cases hz : z < x
    · left
      intro u hu
      rcases List.mem_cons.1 hu with rfl | hu
      · exact hz
      · have := hyt u hu; omega
    · right
      by_cases hzy : z < y
      · -- between x and y
        have hno : ¬ seg a (y :: t) z := by
          have : ∀ (l : List Int), (∀ u ∈ l, z < u) → ¬ seg a l z := fun l => by
            induction l with
            | nil => intro _ h; exact h
            | cons u v ih =>
              intro hu hs
              cases v with
              | nil => exact hs
              | cons w r =>
                rcases hs with ⟨_, h1, _⟩ | hs
                · have := hu u (by simp); omega
                · exact ih (fun q hq => hu q (by simp [hq])) hs
          exact this _ fun u hu => by have := hyt u hu; omega
        constructor
        · rintro (⟨h1, h2, h3⟩ | h1)
          · obtain ⟨s, hs, k1, k2⟩ := (has_iff a x).1 ((hasB_iff a x).1 h1)
            have k3 := h' s hs x (by simp) k1 k2
            have : y ≤ s.2 := by
              rcases List.mem_cons.1 k3 with e | e
              · omega
              · exact hyt _ e
            exact (has_iff a z).2 ⟨s, hs, by omega, by omega⟩
          · exact absurd h1 hno
        · intro hh
          obtain ⟨s, hs, k1, k2⟩ := (has_iff a z).1 hh
          obtain ⟨k3, k4⟩ := h s hs k1 k2
          left
          refine ⟨(hasB_iff a x).2 ((has_iff a x).2 ⟨s, hs, ?_, by omega⟩), by omega, hzy⟩
          rcases k4 with k4 | k4
          · rcases List.mem_cons.1 k4 with e | e
            · omega
            · have := hyt _ e; omega
          · exact k4 x (by simp)
      · have ih := seg_has a h0 (y :: t) z p2 (fun s hs k1 k2 => by
          obtain ⟨k3, k4⟩ := h s hs k1 k2
          refine ⟨?_, ?_⟩
          · rcases List.mem_cons.1 k3 with e | e
            · omega
            · exact e
          · rcases k4 with k4 | k4
            · rcases List.mem_cons.1 k4 with e | e
              · exact .inr fun u hu => by have := hyt u hu; omega
              · exact .inl e
            · exact .inr fun u hu => k4 u (by simp [hu])) (fun s hs u hu k1 k2 => by
          rcases List.mem_cons.1 (h' s hs u (by simp [hu]) k1 k2) with e | e
          · have := hyt u hu; omega
          · exact e)
        have hsame : seg a (x :: y :: t) z ↔ seg a (y :: t) z := by
          show (hasB a x = true ∧ x ≤ z ∧ z < y) ∨ seg a (y :: t) z ↔ _
          exact ⟨fun h => h.elim (fun h => absurd h.2.2 hzy) id, .inr⟩
        rcases ih with ih | ih
        · exact absurd (ih y (by simp)) hzy
        · exact hsame.trans ih

theorem cmb_nf {l : List Sp} (h : In 0 17179869184 l) : cmb0 l (cutsF [] l) = nf l := by
  have hs := cutsF_sorted l [] List.Pairwise.nil
  have hm : ∀ x, x ∈ cutsF [] l ↔ ∃ s ∈ l, x = s.1 ∨ x = s.2 := fun x => by rw [cutsF_mem]; simp
  refine nf_uniq h (cmb0_nr l _ (-1) hs fun x hx => ?_) fun z => ?_
  · obtain ⟨s, hs, hx⟩ := (hm x).1 hx
    have := h.mem s hs
    rcases hx with rfl | rfl <;> omega
  · rw [cmb0_has l _ z hs]
    rcases seg_has l (fun s hs => (h.mem s hs).2.1) (cutsF [] l) z hs (fun s hs _ _ => ⟨(hm _).2 ⟨s, hs, .inr rfl⟩, .inl ((hm _).2 ⟨s, hs, .inl rfl⟩)⟩) (fun s hs x _ _ _ => (hm _).2 ⟨s, hs, .inr rfl⟩) with k | k
    · constructor
      · intro hseg
        exfalso
        have : ∀ (m : List Int), (∀ u ∈ m, z < u) → ¬ seg l m z := fun m => by
          induction m with
          | nil => intro _ h; exact h
          | cons u v ih =>
            intro hu hs
            cases v with
            | nil => exact hs
            | cons w r =>
              rcases hs with ⟨_, h1, _⟩ | hs
              · have := hu u (by simp); omega
              · exact ih (fun q hq => hu q (by simp [hq])) hs
        exact this _ k hseg
      · intro hh
        obtain ⟨s, hs, k1, k2⟩ := (has_iff l z).1 hh
        have := k _ ((hm s.1).2 ⟨s, hs, .inl rfl⟩)
        omega
    · exact k
theorem eqT_sp (a b : Sp) : eqT T15 a b = decide (a = b) := by
  show ((a.1 == b.1) && (a.2 == b.2)) = _
  by_cases h1 : a.1 = b.1 <;> by_cases h2 : a.2 = b.2 <;> simp [h1, h2, Prod.ext_iff]

theorem span_Check_l (k : Nat) (l : List Sp) (hl : l.length ≤ 256) : ∀ (j i : Nat), i ≤ l.length → l.length - i < j →
    f_u106_4 k j l (l.length : Int) (i : Int) = some (if (l.drop i).all (fun s => decide (0 ≤ s.1 ∧ s.1 ≤ s.2 ∧ s.2 ≤ 17179869184)) = true then 0 else 1) := by
  intro j
  induction j with
  | zero => intros; omega
  | succ j ih =>
    intro i hi hj
    rw [f_u106_4]
    by_cases h : i < l.length
    · rw [decide_eq_true (by omega : (i : Int) < (l.length : Int)), cond_true, if_pos ⟨by omega, by omega⟩, drop_cons' l i T15.dflt h, Int.toNat_natCast, List.all_cons]
      generalize l.getD i T15.dflt = s
      by_cases hs : 0 ≤ s.1 ∧ s.1 ≤ s.2 ∧ s.2 ≤ 17179869184
      · rw [decide_eq_false (by omega : ¬ s.fst < 0), decide_eq_false (by omega : ¬ s.fst > s.snd), decide_eq_false (by omega : ¬ s.snd > 17179869184), Bool.or_self, Bool.or_self, cond_false, wrapS i (by omega), ih (i + 1) (by omega) (by omega), decide_eq_true hs, Bool.true_and]
      · have : (decide (s.fst < 0) || decide (s.fst > s.snd) || decide (s.snd > 17179869184)) = true := by
          by_cases a : s.fst < 0
          · rw [decide_eq_true a]; rfl
          · by_cases b : s.fst > s.snd
            · rw [decide_eq_true b, Bool.or_true]; rfl
            · rw [decide_eq_true (by omega : s.snd > 17179869184), Bool.or_true]
        rw [this, cond_true, decide_eq_false hs, Bool.false_and, if_neg (by decide)]
    · rw [decide_eq_false (by omega : ¬ (i : Int) < (l.length : Int)), cond_false, drop_all l i (by omega)]
      rfl
theorem span_Check_s (k : Nat) (hk : 300 ≤ k) (l : List Sp) : f_u106 k l = some (chkS l) := by
  unfold f_u106 chkS
  by_cases h : l.length > 256
  · rw [decide_eq_true (by omega : (l.length : Int) > 256), cond_true, if_pos h]
  · rw [decide_eq_false (by omega : ¬ (l.length : Int) > 256), cond_false, if_neg h]
    exact span_Check_l k l (by omega) k 0 (by omega) (by omega)
theorem span_Check_v (k : Nat) (hk : 300 ≤ k) (l : List Sp) : v_u106 k l = chkS l := by
  unfold v_u106; rw [span_Check_s k hk]; rfl

theorem last_idxS (pre : List Sp) (c : Sp) (h : pre.length < 4611686018427387904) : (IntKind.i64.wrap (((pre ++ [c]).length : Int) - 1)).toNat = pre.length := by
  rw [List.length_append, List.length_singleton, wrap_id (by omega) (by omega)]; omega
theorem last_getS (pre : List Sp) (c d : Sp) : (pre ++ [c]).getD pre.length d = c := by simp
theorem last_setS (pre : List Sp) (c d : Sp) : (pre ++ [c]).set pre.length d = pre ++ [d] := by simp

theorem span_joined_l (k : Nat) (l : List Sp) (hl : l.length ≤ 100000) : ∀ (j i : Nat), i ≤ l.length → l.length - i < j →
    (∀ last : Sp, last.1 ≥ last.2 → f_u110_6 k j (l.length : Int) (i : Int) [] last l = some (jn0 (l.drop i))) ∧
    (∀ (pre : List Sp) (c last : Sp), pre.length ≤ i → (last.1 ≥ last.2 ∨ last.2 ≤ c.2) → f_u110_6 k j (l.length : Int) (i : Int) (pre ++ [c]) last l = some (pre ++ jn c (l.drop i))) := by
  intro j
  induction j with
  | zero => intros; omega
  | succ j ih =>
    intro i hi hj
    by_cases h : i < l.length
    · refine ⟨fun last hla => ?_, fun pre c last hp hla => ?_⟩
      · rw [f_u110_6, decide_eq_true (by omega : (i : Int) < (l.length : Int)), cond_true, if_pos ⟨by omega, by omega⟩, drop_cons' l i T15.dflt h, Int.toNat_natCast, eqT_sp, jn0]
        obtain ⟨ih1, ih2⟩ := ih (i + 1) (by omega) (by omega)
        generalize l.getD i T15.dflt = s at *
        by_cases q : s.1 ≥ s.2
        · rw [decide_eq_true q, Bool.true_or, cond_true, if_pos q, wrapS i (by omega)]
          exact ih1 s q
        · have hne : ¬ s = last := fun e => q (e ▸ hla)
          rw [decide_eq_false q, decide_eq_false hne, Bool.false_or, cond_false, if_neg q, wrapS i (by omega)]
          rw [if_pos ⟨fun e => (by simp at e), fun e => (by simp at e)⟩]
          show (bif decide ((0 : Int) > 0) && _ then _ else _) = _
          rw [decide_eq_false (by omega), Bool.false_and, cond_false, if_pos (by simp), List.nil_append]
          exact ih2 [] s s (by simp) (.inr (Int.le_refl _))
      · rw [f_u110_6, decide_eq_true (by omega : (i : Int) < (l.length : Int)), cond_true, if_pos ⟨by omega, by omega⟩, drop_cons' l i T15.dflt h, Int.toNat_natCast, eqT_sp, jn]
        obtain ⟨ih1, ih2⟩ := ih (i + 1) (by omega) (by omega)
        generalize l.getD i T15.dflt = s at *
        have hlen : (pre ++ [c]).length = pre.length + 1 := by simp
        by_cases q : s.1 ≥ s.2
        · rw [decide_eq_true q, Bool.true_or, cond_true, if_pos q, wrapS i (by omega)]
          exact ih2 pre c s (by omega) (.inl q)
        · rw [if_neg q, decide_eq_false q, Bool.false_or]
          by_cases he : s = last
          · have h2 : s.2 ≤ c.2 := by
              subst he
              rcases hla with h | h
              · exact absurd h q
              · exact h
            rw [decide_eq_true he, cond_true, wrapS i (by omega), if_pos (by omega), if_neg (by omega)]
            exact ih2 pre c s (by omega) (.inr h2)
          · have hidx : (0 : Int) ≤ IntKind.i64.wrap (((pre ++ [c]).length : Int) - 1) ∧ IntKind.i64.wrap (((pre ++ [c]).length : Int) - 1) < ((pre ++ [c]).length : Int) := by
              rw [hlen, wrap_id (by omega) (by omega)]; exact ⟨by omega, by omega⟩
            rw [decide_eq_false he, cond_false, if_pos ⟨fun _ => hidx.1, fun _ => hidx.2⟩, decide_eq_true (by rw [hlen]; omega), Bool.true_and, last_idxS pre c (by omega), last_getS, last_setS, wrapS i (by omega)]
            by_cases q2 : s.1 ≤ c.2
            · rw [decide_eq_true q2, cond_true, if_pos ⟨hidx.1, hidx.2, hidx.1, hidx.2⟩, if_pos q2]
              exact ih2 pre (c.1, if s.2 > c.2 then s.2 else c.2) s (by omega) (.inr (by show s.2 ≤ if s.2 > c.2 then s.2 else c.2; split <;> omega))
            · rw [decide_eq_false q2, cond_false, if_pos (by rw [hlen, List.length_singleton]; omega), if_neg q2]
              rw [ih2 (pre ++ [c]) s s (by simp; omega) (.inr (Int.le_refl _))]
              simp
    · have hd := drop_all l i (by omega)
      refine ⟨fun last hla => ?_, fun pre c last hp hla => ?_⟩
      · rw [f_u110_6, decide_eq_false (by omega : ¬ (i : Int) < (l.length : Int)), cond_false, hd]; rfl
      · rw [f_u110_6, decide_eq_false (by omega : ¬ (i : Int) < (l.length : Int)), cond_false, hd]; rfl
theorem span_joined_s (k : Nat) (l : List Sp) (h : In 0 17179869184 l) (hl : l.length ≤ 100000) (hk : l.length < k) : f_u110 k l = some (nf l) := by
  have e1 : f_u100 k l = some l := by
    unfold f_u100; rw [if_pos (by omega)]
  have v1 : v_u100 k l = l := by unfold v_u100; rw [e1]; rfl
  have e2 : f_u103 k l = some (sortSP l) := by
    unfold f_u103
    rw [if_pos ⟨List.all_eq_true.2 fun x hx => decide_eq_true (h.small x hx), by omega⟩]
  have v2 : v_u103 k l = sortSP l := by unfold v_u103; rw [e2]; rfl
  have hlen := (perm_sortSP h.small).length_eq
  unfold f_u110
  rw [e1, v1, e2, v2, Option.isSome_some, Option.isSome_some, if_pos rfl, if_pos rfl]
  exact (span_joined_l k (sortSP l) (by omega) k 0 (by omega) (by omega)).1 (0, 0) (Int.le_refl _)
theorem span_joined_v (k : Nat) (l : List Sp) (h : In 0 17179869184 l) (hl : l.length ≤ 100000) (hk : l.length < k) : v_u110 k l = nf l := by
  unfold v_u110; rw [span_joined_s k l h hl hk]; rfl

/-- the ends of spans -/
def ends2 : List Sp → List Int
  | [] => []
  | s :: t => s.1 :: s.2 :: ends2 t
theorem ends2_len : ∀ l : List Sp, (ends2 l).length = 2 * l.length
  | [] => rfl
  | s :: t => by simp only [ends2, List.length_cons, ends2_len t]; omega
theorem ends2_fst : ∀ (l : List Sp) (p : Nat), p < l.length → (ends2 l).getD (2 * p) 0 = (l.getD p (0, 0)).1
  | s :: t, 0, _ => rfl
  | s :: t, p + 1, h => by
    have := ends2_fst t p (by simpa using h)
    rw [show 2 * (p + 1) = 2 * p + 1 + 1 by omega]
    simpa [ends2] using this
theorem ends2_snd : ∀ (l : List Sp) (p : Nat), p < l.length → (ends2 l).getD (2 * p + 1) 0 = (l.getD p (0, 0)).2
  | s :: t, 0, _ => rfl
  | s :: t, p + 1, h => by
    have := ends2_snd t p (by simpa using h)
    rw [show 2 * (p + 1) + 1 = 2 * p + 1 + 1 + 1 by omega]
    simpa [ends2] using this
theorem ends2_append : ∀ (a b : List Sp), ends2 (a ++ b) = ends2 a ++ ends2 b
  | [], b => rfl
  | s :: t, b => by simp [ends2, ends2_append t b]
theorem ends2_sorted : ∀ {b : Int} {l : List Sp}, Nr b l → (ends2 l).Pairwise (fun x y => x ≤ y) ∧ ∀ x ∈ ends2 l, b ≤ x
  | _, [], _ => ⟨List.Pairwise.nil, by simp [ends2]⟩
  | b, s :: t, ⟨h1, h2, h3⟩ => by
    obtain ⟨i1, i2⟩ := ends2_sorted h3
    refine ⟨List.pairwise_cons.2 ⟨fun x hx => ?_, List.pairwise_cons.2 ⟨fun x hx => i2 x hx, i1⟩⟩, fun x hx => ?_⟩
    · rcases List.mem_cons.1 hx with rfl | hx
      · omega
      · have := i2 x hx; omega
    · rcases List.mem_cons.1 hx with rfl | hx
      · omega
      · rcases List.mem_cons.1 hx with rfl | hx
        · omega
        · have := i2 x hx; omega

/-- neighbours of a normal form -/
theorem Nr.get : ∀ {b : Int} {l : List Sp}, Nr b l → ∀ (p : Nat), p < l.length → (l.getD p (0, 0)).1 < (l.getD p (0, 0)).2 ∧ (p + 1 < l.length → (l.getD p (0, 0)).2 < (l.getD (p + 1) (0, 0)).1)
  | _, [], _, p, h => by simp at h
  | b, s :: t, ⟨h1, h2, h3⟩, 0, h => by
    refine ⟨h2, fun h' => ?_⟩
    cases t with
    | nil => simp at h'
    | cons u v => exact h3.1
  | b, s :: t, ⟨h1, h2, h3⟩, p + 1, h => by
    have := Nr.get h3 p (by simpa using h)
    simpa using this

theorem span_sets_end (k j : Nat) (a : List Sp) (h : In 0 17179869184 a) (hn : Nr (-1) a) (hl : a.length ≤ 256) (hk : 300 ≤ k) : f_u112_28 k (j + 1) a = some (a, 0) := by
  rw [f_u112_28, span_joined_s k a h (by omega) (by omega), span_joined_v k a h (by omega) (by omega), nf_self h hn, Option.isSome_some, if_pos rfl, decide_eq_false (by omega), cond_false]

theorem span_sets18_l (k : Nat) (hk : 300 ≤ k) (a : List Sp) (h : In 0 17179869184 a) (hn : Nr (-1) a) (hl : a.length ≤ 256) : ∀ (d p : Nat) (j : Nat), a.length - p = d → p ≤ a.length → 7 * d + 2 ≤ j →
    f_u112_18 k j a [] (p : Int) 0 ((ends2 a).length : Int) ((2 * p : Nat) : Int) (ends2 a) (a.take p) = some (a, 0) := by
  intro d
  induction d with
  | zero =>
    intro p j hd hp hj
    obtain ⟨j, rfl⟩ : ∃ m, j = m + 2 := ⟨j - 2, by omega⟩
    have hpa : p = a.length := by omega
    subst hpa
    rw [f_u112_18, ends2_len, decide_eq_false (by omega), cond_false, List.take_length]
    exact span_sets_end k j a h hn hl hk
  | succ d ih =>
    intro p j hd hp hj
    obtain ⟨j, rfl⟩ : ∃ m, j = m + 7 := ⟨j - 7, by omega⟩
    have hpl : p < a.length := by omega
    have hEl := ends2_len a
    have e1 := ends2_fst a p hpl
    have e2 := ends2_snd a p hpl
    obtain ⟨n1, n2⟩ := hn.get p hpl
    have htk := take_snoc a p (0, 0) hpl
    have hd0 : T15.dflt = ((0, 0) : Sp) := rfl
    have hz : (RTy.int IntKind.i64).dflt = (0 : Int) := rfl
    generalize hs : a.getD p (0, 0) = s at *
    -- the beginning of a span
    have b18 : f_u112_18 k (j + 7) a [] (p : Int) 0 ((ends2 a).length : Int) ((2 * p : Nat) : Int) (ends2 a) (a.take p) = f_u112_20 k (j + 6) a [] (p : Int) 0 ((2 * p : Nat) : Int) s.1 ((ends2 a).length : Int) ((2 * p : Nat) : Int) (ends2 a) (a.take p) := by
      rw [show j + 7 = (j + 6) + 1 by omega, f_u112_18, decide_eq_true (by omega), cond_true, if_pos ⟨by omega, by omega⟩, Int.toNat_natCast, hz, e1]
    have b20 : f_u112_20 k (j + 6) a [] (p : Int) 0 ((2 * p : Nat) : Int) s.1 ((ends2 a).length : Int) ((2 * p : Nat) : Int) (ends2 a) (a.take p) = f_u112_22 k (j + 5) a [] (p : Int) 0 ((2 * p : Nat) : Int) s.1 ((ends2 a).length : Int) ((2 * p : Nat) : Int) (ends2 a) (a.take p) := by
      rw [show j + 6 = (j + 5) + 1 by omega, f_u112_20, if_pos ⟨fun _ => by omega, fun _ => by omega⟩, Int.toNat_natCast, hd0, hs, decide_eq_false (by omega : ¬ s.2 ≤ s.1), Bool.and_false, cond_false]
    have b22 : f_u112_22 k (j + 5) a [] (p : Int) 0 ((2 * p : Nat) : Int) s.1 ((ends2 a).length : Int) ((2 * p : Nat) : Int) (ends2 a) (a.take p) = f_u112_18 k (j + 4) a [] (p : Int) 0 ((ends2 a).length : Int) ((2 * p + 1 : Nat) : Int) (ends2 a) (a.take (p + 1)) := by
      rw [show j + 5 = (j + 4) + 1 by omega, f_u112_22, if_pos ⟨fun e => by simp at e, fun e => by simp at e⟩, show (decide ((0 : Int) < (([] : List Sp).length : Int)) && _) = false from rfl, cond_false, wrapS (2 * p) (by omega)]
      rw [if_pos ⟨fun _ => by omega, fun _ => by omega⟩, Int.toNat_natCast, hz, e2, show ((((2 * p + 1 : Nat) : Int) == ((ends2 a).length : Int)) = false) from beqf (by omega), show (s.2 == s.1) = false from beqf (by omega), Bool.or_self, cond_false]
      rw [Int.toNat_natCast, hd0, hs, decide_eq_true (by omega : (p : Int) < (a.length : Int)), decide_eq_true (by omega : s.fst ≤ s.1), Bool.and_self]
      have ek : ∀ b, v_u108 k true b = true := fun b => rfl
      have ef : ∀ b, f_u108 k true b = some true := fun b => rfl
      rw [ek, ef, if_pos ⟨fun _ => by omega, fun _ => by omega, fun e => by simp at e, fun e => by simp at e, rfl⟩, cond_true, if_pos ⟨by omega, by omega, by rw [List.length_singleton, List.length_take]; omega⟩, htk]
    -- its end
    have c18 : f_u112_18 k (j + 4) a [] (p : Int) 0 ((ends2 a).length : Int) ((2 * p + 1 : Nat) : Int) (ends2 a) (a.take (p + 1)) = f_u112_20 k (j + 3) a [] (p : Int) 0 ((2 * p + 1 : Nat) : Int) s.2 ((ends2 a).length : Int) ((2 * p + 1 : Nat) : Int) (ends2 a) (a.take (p + 1)) := by
      rw [show j + 4 = (j + 3) + 1 by omega, f_u112_18, decide_eq_true (by omega), cond_true, if_pos ⟨by omega, by omega⟩, Int.toNat_natCast, hz, e2]
    have c20 : f_u112_20 k (j + 3) a [] (p : Int) 0 ((2 * p + 1 : Nat) : Int) s.2 ((ends2 a).length : Int) ((2 * p + 1 : Nat) : Int) (ends2 a) (a.take (p + 1)) = f_u112_20 k (j + 2) a [] ((p + 1 : Nat) : Int) 0 ((2 * p + 1 : Nat) : Int) s.2 ((ends2 a).length : Int) ((2 * p + 1 : Nat) : Int) (ends2 a) (a.take (p + 1)) := by
      rw [show j + 3 = (j + 2) + 1 by omega, f_u112_20, if_pos ⟨fun _ => by omega, fun _ => by omega⟩, Int.toNat_natCast, hd0, hs, decide_eq_true (by omega : s.snd ≤ s.2), decide_eq_true (by omega : (p : Int) < (a.length : Int)), Bool.and_self, cond_true, wrapS p (by omega)]
    by_cases hlast : p + 1 < a.length
    · have n2 := n2 hlast
      have e3 := ends2_fst a (p + 1) hlast
      obtain ⟨m1, _⟩ := hn.get (p + 1) hlast
      generalize hu : a.getD (p + 1) (0, 0) = u at *
      have d20 : f_u112_20 k (j + 2) a [] ((p + 1 : Nat) : Int) 0 ((2 * p + 1 : Nat) : Int) s.2 ((ends2 a).length : Int) ((2 * p + 1 : Nat) : Int) (ends2 a) (a.take (p + 1)) = f_u112_22 k (j + 1) a [] ((p + 1 : Nat) : Int) 0 ((2 * p + 1 : Nat) : Int) s.2 ((ends2 a).length : Int) ((2 * p + 1 : Nat) : Int) (ends2 a) (a.take (p + 1)) := by
        rw [show j + 2 = (j + 1) + 1 by omega, f_u112_20, if_pos ⟨fun _ => by omega, fun _ => by omega⟩, Int.toNat_natCast, hd0, hu, decide_eq_false (by omega : ¬ u.2 ≤ s.2), Bool.and_false, cond_false]
      have d22 : f_u112_22 k (j + 1) a [] ((p + 1 : Nat) : Int) 0 ((2 * p + 1 : Nat) : Int) s.2 ((ends2 a).length : Int) ((2 * p + 1 : Nat) : Int) (ends2 a) (a.take (p + 1)) = f_u112_18 k j a [] ((p + 1 : Nat) : Int) 0 ((ends2 a).length : Int) ((2 * (p + 1) : Nat) : Int) (ends2 a) (a.take (p + 1)) := by
        rw [f_u112_22, if_pos ⟨fun e => by simp at e, fun e => by simp at e⟩, show (decide ((0 : Int) < (([] : List Sp).length : Int)) && _) = false from rfl, cond_false, wrapS (2 * p + 1) (by omega), show 2 * p + 1 + 1 = 2 * (p + 1) by omega]
        rw [if_pos ⟨fun _ => by omega, fun _ => by omega⟩, Int.toNat_natCast, hz, e3, show ((((2 * (p + 1) : Nat) : Int) == ((ends2 a).length : Int)) = false) from beqf (by omega), show (u.1 == s.2) = false from beqf (by omega), Bool.or_self, cond_false]
        rw [Int.toNat_natCast, hd0, hu, decide_eq_false (by omega : ¬ u.fst ≤ s.2), Bool.and_false]
        have ek : ∀ b, v_u108 k false b = false := fun b => rfl
        have ef : ∀ b, f_u108 k false b = some false := fun b => rfl
        rw [ek, ef, if_pos ⟨fun _ => by omega, fun _ => by omega, fun e => by simp at e, fun e => by simp at e, rfl⟩, cond_false]
      rw [b18, b20, b22, c18, c20, d20, d22]
      exact ih (p + 1) j (by omega) (by omega) (by omega)
    · have hpa : p + 1 = a.length := by omega
      have d20 : f_u112_20 k (j + 2) a [] ((p + 1 : Nat) : Int) 0 ((2 * p + 1 : Nat) : Int) s.2 ((ends2 a).length : Int) ((2 * p + 1 : Nat) : Int) (ends2 a) (a.take (p + 1)) = f_u112_22 k (j + 1) a [] ((p + 1 : Nat) : Int) 0 ((2 * p + 1 : Nat) : Int) s.2 ((ends2 a).length : Int) ((2 * p + 1 : Nat) : Int) (ends2 a) (a.take (p + 1)) := by
        rw [show j + 2 = (j + 1) + 1 by omega, f_u112_20, if_pos ⟨fun _ => by omega, fun e => of_decide_eq_true e⟩, decide_eq_false (by omega : ¬ ((p + 1 : Nat) : Int) < (a.length : Int)), Bool.false_and, cond_false]
      have d22 : f_u112_22 k (j + 1) a [] ((p + 1 : Nat) : Int) 0 ((2 * p + 1 : Nat) : Int) s.2 ((ends2 a).length : Int) ((2 * p + 1 : Nat) : Int) (ends2 a) (a.take (p + 1)) = f_u112_18 k j a [] ((p + 1 : Nat) : Int) 0 ((ends2 a).length : Int) ((2 * (p + 1) : Nat) : Int) (ends2 a) (a.take (p + 1)) := by
        rw [f_u112_22, if_pos ⟨fun e => by simp at e, fun e => by simp at e⟩, show (decide ((0 : Int) < (([] : List Sp).length : Int)) && _) = false from rfl, cond_false, wrapS (2 * p + 1) (by omega), show 2 * p + 1 + 1 = 2 * (p + 1) by omega]
        have hq : (((2 * (p + 1) : Nat) : Int) == ((ends2 a).length : Int)) = true := by simp only [beq_iff_eq]; omega
        rw [hq, if_pos (show (true = false → (0 : Int) ≤ ((2 * (p + 1) : Nat) : Int)) ∧ (true = false → ((2 * (p + 1) : Nat) : Int) < ((ends2 a).length : Int)) from ⟨fun e => (by cases e), fun e => (by cases e)⟩), Bool.true_or, cond_true]
      rw [b18, b20, b22, c18, c20, d20, d22]
      exact ih (p + 1) j (by omega) (by omega) (by omega)

theorem span_concat_s (k : Nat) (hk : 10 ≤ k) (a : List Sp) (hl : a.length ≤ 1000) : f_u101 k [a, []] = some a := by
  obtain ⟨k, rfl⟩ : ∃ m, k = m + 10 := ⟨k - 10, by omega⟩
  have hg : f_u102 (k + 10) (a.length : Int) = some [] := by
    unfold f_u102; rw [if_pos ⟨by omega, by omega⟩]
  have hv : v_u102 (k + 10) (a.length : Int) = [] := by unfold v_u102; rw [hg]; rfl
  have L2 : (([a, []] : List (List Sp)).length : Int) = 2 := rfl
  unfold f_u101
  rw [L2]
  rw [f_u101_3, L2, decide_eq_true (by omega), cond_true, if_pos (show (0 : Int) ≤ 0 ∧ (0 : Int) < 2 from ⟨by omega, by omega⟩)]
  show (bif decide (IntKind.i64.wrap (0 + (a.length : Int)) < 0) then none else f_u101_3 (k + 10) (k + 9) [a, []] (IntKind.i64.wrap (0 + (a.length : Int))) [a, []] 2 (IntKind.i64.wrap (0 + 1))) = _
  rw [wrap_id (i := 0 + (a.length : Int)) (by omega) (by omega), Int.zero_add, decide_eq_false (by omega), cond_false, show IntKind.i64.wrap (0 + 1) = 1 from wrapS 0 (by omega)]
  rw [f_u101_3, L2, decide_eq_true (by omega), cond_true, if_pos (show (0 : Int) ≤ 1 ∧ (1 : Int) < 2 from ⟨by omega, by omega⟩)]
  show (bif decide (IntKind.i64.wrap ((a.length : Int) + (0 : Int)) < 0) then none else f_u101_3 (k + 10) (k + 8) [a, []] (IntKind.i64.wrap ((a.length : Int) + (0 : Int))) [a, []] 2 (IntKind.i64.wrap (1 + 1))) = _
  rw [wrap_id (i := (a.length : Int) + (0 : Int)) (by omega) (by omega), Int.add_zero, decide_eq_false (by omega), cond_false, show IntKind.i64.wrap (1 + 1) = 2 from wrapS 1 (by omega)]
  rw [f_u101_3, decide_eq_false (by omega), cond_false, hg, hv, Option.isSome_some, if_pos rfl]
  rw [L2, f_u101_11, L2, decide_eq_true (by omega), cond_true, if_pos (show (0 : Int) ≤ 0 ∧ (0 : Int) < 2 from ⟨by omega, by omega⟩)]
  show (if (([] : List Sp).length + a.length) * 16 ≤ 140737488355328 then f_u101_11 (k + 10) (k + 6) [a, []] 2 (IntKind.i64.wrap (0 + 1)) ([] ++ a) else none) = _
  rw [if_pos (show (([] : List Sp).length + a.length) * 16 ≤ 140737488355328 by rw [List.length_nil]; omega), show IntKind.i64.wrap (0 + 1) = 1 from wrapS 0 (by omega)]
  rw [f_u101_11, L2, decide_eq_true (by omega), cond_true, if_pos (show (0 : Int) ≤ 1 ∧ (1 : Int) < 2 from ⟨by omega, by omega⟩)]
  show (if (([] ++ a : List Sp).length + ([] : List Sp).length) * 16 ≤ 140737488355328 then f_u101_11 (k + 10) (k + 5) [a, []] 2 (IntKind.i64.wrap (1 + 1)) ([] ++ a ++ []) else none) = _
  rw [if_pos (show (([] ++ a : List Sp).length + ([] : List Sp).length) * 16 ≤ 140737488355328 by rw [List.length_nil, List.nil_append]; omega), show IntKind.i64.wrap (1 + 1) = 2 from wrapS 1 (by omega)]
  rw [f_u101_11, decide_eq_false (by omega), cond_false]
  show some ([] ++ a ++ []) = some a
  simp

theorem span_sets10_l (k : Nat) (hk : 300 ≤ k) (a : List Sp) (h : In 0 17179869184 a) (hn : Nr (-1) a) (hl : a.length ≤ 256) : ∀ (j i : Nat), i ≤ a.length → (a.length - i) + (7 * a.length + 3) ≤ j →
    f_u112_10 k j a [] (a.length : Int) (i : Int) (ends2 (a.take i)) a = some (a, 0) := by
  intro j
  induction j with
  | zero => intros; omega
  | succ j ih =>
    intro i hi hj
    rw [f_u112_10]
    by_cases h' : i < a.length
    · rw [decide_eq_true (by omega : (i : Int) < (a.length : Int)), cond_true, if_pos ⟨by omega, by omega⟩, Int.toNat_natCast, if_pos (by rw [ends2_len, List.length_take]; show (2 * min i a.length + 2) * 8 ≤ _; omega), wrapS i (by omega)]
      have := ih (i + 1) (by omega) (by omega)
      rw [take_snoc a i (0, 0) h', ends2_append] at this
      exact this
    · have hs : f_u104 k (ends2 a) = some (ends2 a) := by
        unfold f_u104
        rw [if_pos (by rw [ends2_len]; omega), List.mergeSort_of_pairwise]
        exact (ends2_sorted hn).1.imp fun h => decide_eq_true h
      have hv : v_u104 k (ends2 a) = ends2 a := by unfold v_u104; rw [hs]; rfl
      rw [decide_eq_false (by omega : ¬ (i : Int) < (a.length : Int)), cond_false, List.take_of_length_le (by omega), hs, hv, Option.isSome_some, if_pos rfl]
      exact span_sets18_l k hk a h hn hl a.length 0 j (by omega) (by omega) (by omega)

theorem span_Norm_s (k : Nat) (hk : 2100 ≤ k) (l : List Sp) : f_u107 k l = some (normS l) := by
  have e : f_u112 k l [] = some (normS l) := by
    unfold f_u112 normS
    rw [span_Check_s k (by omega), span_Check_v k (by omega), span_Check_s k (by omega), span_Check_v k (by omega), Option.isSome_some, if_pos rfl]
    by_cases h1 : chkS l = 0
    · obtain ⟨l1, l2⟩ := chkS_zero.1 h1
      have hnl := nf_len l2
      have h0 : In 0 17179869184 ([] : List Sp) := trivial
      rw [show (chkS l != 0) = false by simp [h1], cond_false, if_neg (fun h : chkS l ≠ 0 => h h1), Option.isSome_some, if_pos rfl, show (chkS [] != 0) = false from rfl, cond_false]
      rw [span_joined_s k l l2 (by omega) (by omega), span_joined_v k l l2 (by omega) (by omega), span_joined_s k [] h0 (by simp) (by simp; omega), span_joined_v k [] h0 (by simp) (by simp; omega), nf_self h0 trivial, if_pos ⟨rfl, rfl⟩]
      have hc := span_concat_s k (by omega) (nf l) (by omega)
      have hv : v_u101 k [nf l, []] = nf l := by unfold v_u101; rw [hc]; rfl
      rw [hc, hv, Option.isSome_some, if_pos rfl]
      exact span_sets10_l k (by omega) (nf l) (nf_in l2) (nf_nr l2) (by omega) k 0 (by omega) (by omega)
    · rw [show (chkS l != 0) = true by simp [h1], cond_true, if_pos h1]
  have ev : v_u112 k l [] = normS l := by unfold v_u112; rw [e]; rfl
  unfold f_u107
  rw [e, ev]; rfl
theorem span_Norm_v (k : Nat) (hk : 2100 ≤ k) (l : List Sp) : v_u107 k l = normS l := by
  unfold v_u107; rw [span_Norm_s k hk]; rfl

theorem span_Total_l (k : Nat) (a : List Sp) (h : In 0 17179869184 a) (hl : a.length ≤ 256) : ∀ (j i : Nat) (n : Int), i ≤ a.length → a.length - i < j → 0 ≤ n → n ≤ (i : Int) * 17179869184 →
    f_u109_6 k j n a (a.length : Int) (i : Int) = some (n + tot (a.drop i), 0) := by
  intro j
  induction j with
  | zero => intros; omega
  | succ j ih =>
    intro i n hi hj h0 h1
    rw [f_u109_6]
    by_cases h' : i < a.length
    · have hm := h.mem (a.getD i T15.dflt) (by simp [h'])
      rw [decide_eq_true (by omega : (i : Int) < (a.length : Int)), cond_true, if_pos ⟨by omega, by omega⟩, drop_cons' a i T15.dflt h', Int.toNat_natCast]
      generalize a.getD i T15.dflt = s at hm
      rw [wrap_id (i := s.snd - s.fst) (by omega) (by omega), wrap_id (i := n + (s.snd - s.fst)) (by omega) (by omega), wrapS i (by omega), ih (i + 1) _ (by omega) (by omega) (by omega) (by omega), tot, Int.add_assoc]
    · rw [decide_eq_false (by omega : ¬ (i : Int) < (a.length : Int)), cond_false, drop_all a i (by omega)]
      simp [tot]
theorem span_Total_s (k : Nat) (hk : 300 ≤ k) (l : List Sp) : f_u109 k l = some (totalS l) := by
  unfold f_u109 totalS
  rw [span_Check_s k (by omega), span_Check_v k (by omega), Option.isSome_some, if_pos rfl]
  by_cases h1 : chkS l = 0
  · obtain ⟨l1, l2⟩ := chkS_zero.1 h1
    have hnl := nf_len l2
    rw [show (chkS l != 0) = false by simp [h1], cond_false, if_neg (fun h : chkS l ≠ 0 => h h1), span_joined_s k l l2 (by omega) (by omega), span_joined_v k l l2 (by omega) (by omega), Option.isSome_some, if_pos rfl]
    have := span_Total_l k (nf l) (nf_in l2) (by omega) k 0 0 (by omega) (by omega) (by omega) (by omega)
    rw [Int.zero_add] at this
    exact this
  · rw [show (chkS l != 0) = true by simp [h1], cond_true, if_pos h1]
theorem span_Total_v (k : Nat) (hk : 300 ≤ k) (l : List Sp) : v_u109 k l = totalS l := by
  unfold v_u109; rw [span_Total_s k hk]; rfl
theorem ref04_Check_l (k : Nat) (l : List Sp) (hl : l.length ≤ 256) : ∀ (j i : Nat), i ≤ l.length → l.length - i < j →
    f_u41_4 k j l (i : Int) = some (if (l.drop i).all (fun s => decide (0 ≤ s.1 ∧ s.1 ≤ s.2 ∧ s.2 ≤ 17179869184)) = true then 0 else 1) := by
  intro j
  induction j with
  | zero => intros; omega
  | succ j ih =>
    intro i hi hj
    rw [f_u41_4]
    by_cases h : i < l.length
    · rw [decide_eq_true (by omega : (i : Int) < (l.length : Int)), cond_true, if_pos (by (repeat' apply And.intro) <;> (intros; omega)), drop_cons' l i T15.dflt h, Int.toNat_natCast, List.all_cons]
      generalize l.getD i T15.dflt = s
      by_cases hs : 0 ≤ s.1 ∧ s.1 ≤ s.2 ∧ s.2 ≤ 17179869184
      · rw [decide_eq_false (by omega : ¬ s.fst < 0), decide_eq_false (by omega : ¬ s.fst > s.snd), decide_eq_false (by omega : ¬ s.snd > 17179869184), Bool.or_self, Bool.or_self, cond_false, wrapS i (by omega), ih (i + 1) (by omega) (by omega), decide_eq_true hs, Bool.true_and]
      · have : (decide (s.fst < 0) || decide (s.fst > s.snd) || decide (s.snd > 17179869184)) = true := by
          by_cases a : s.fst < 0
          · rw [decide_eq_true a]; rfl
          · by_cases b : s.fst > s.snd
            · rw [decide_eq_true b, Bool.or_true]; rfl
            · rw [decide_eq_true (by omega : s.snd > 17179869184), Bool.or_true]
        rw [this, cond_true, decide_eq_false hs, Bool.false_and, if_neg (by decide)]
    · rw [decide_eq_false (by omega : ¬ (i : Int) < (l.length : Int)), cond_false, drop_all l i (by omega)]
      rfl
theorem ref04_Check_s (k : Nat) (hk : 300 ≤ k) (l : List Sp) : f_u41 k l = some (chkS l) := by
  unfold f_u41 chkS
  by_cases h : l.length > 256
  · rw [decide_eq_true (by omega : (l.length : Int) > 256), cond_true, if_pos h]
  · rw [decide_eq_false (by omega : ¬ (l.length : Int) > 256), cond_false, if_neg h]
    exact ref04_Check_l k l (by omega) k 0 (by omega) (by omega)
theorem ref04_Check_v (k : Nat) (hk : 300 ≤ k) (l : List Sp) : v_u41 k l = chkS l := by
  unfold v_u41; rw [ref04_Check_s k hk]; rfl

theorem ref04_with_l (k : Nat) (l : List Int) (hl : l.length ≤ 10000) (n : Int) : ∀ (j i : Nat), i ≤ l.length → l.length - i < j →
    f_u48_2 k j l n (i : Int) = some (l.take i ++ ins (l.drop i) n) := by
  intro j
  induction j with
  | zero => intros; omega
  | succ j ih =>
    intro i hi hj
    have hz : I.dflt = (0 : Int) := rfl
    have tk : ([] ++ List.take ((i : Int).toNat - Int.toNat 0) (List.drop (Int.toNat 0) l) : List Int) = l.take i := by
      rw [Int.toNat_natCast, show Int.toNat 0 = 0 from rfl]; simp
    have dk : List.take ((l.length : Int).toNat - (i : Int).toNat) (List.drop (i : Int).toNat l) = l.drop i := by
      rw [Int.toNat_natCast, Int.toNat_natCast]; exact List.take_of_length_le (by rw [List.length_drop]; omega)
    rw [f_u48_2]
    rw [if_pos (show (decide ((i : Int) < (l.length : Int)) = true → (0 : Int) ≤ (i : Int)) ∧ (decide ((i : Int) < (l.length : Int)) = true → (i : Int) < (l.length : Int)) from ⟨fun _ => by omega, fun e => of_decide_eq_true e⟩)]
    have fin : (if ((0 : Int) ≤ (0 : Int)) ∧ ((0 : Int) ≤ (i : Int)) ∧ ((i : Int) ≤ (l.length : Int)) ∧ (((0 : Nat) + (List.take ((i : Int).toNat - Int.toNat (0 : Int)) (List.drop (Int.toNat (0 : Int)) l)).length) * (8 : Nat) ≤ (140737488355328 : Nat)) then
              if ((([] ++ List.take ((i : Int).toNat - Int.toNat (0 : Int)) (List.drop (Int.toNat (0 : Int)) l)).length + [n].length) * (8 : Nat) ≤ (140737488355328 : Nat)) then
                if ((0 : Int) ≤ (i : Int)) ∧ ((i : Int) ≤ (l.length : Int)) ∧ ((l.length : Int) ≤ (l.length : Int)) ∧ ((([] ++ List.take ((i : Int).toNat - Int.toNat (0 : Int)) (List.drop (Int.toNat (0 : Int)) l) ++ [n]).length + (List.take ((l.length : Int).toNat - (i : Int).toNat) (List.drop (i : Int).toNat l)).length) * (8 : Nat) ≤ (140737488355328 : Nat)) then
                  some ([] ++ List.take ((i : Int).toNat - Int.toNat 0) (List.drop (Int.toNat 0) l) ++ [n] ++ List.take ((l.length : Int).toNat - (i : Int).toNat) (List.drop (i : Int).toNat l))
                else none
              else none
            else none) = some (l.take i ++ [n] ++ l.drop i) := by
      have e0 : List.take ((i : Int).toNat - Int.toNat 0) (List.drop (Int.toNat 0) l) = l.take i := by rw [← tk]; rfl
      rw [dk, e0, List.nil_append]
      rw [if_pos ⟨by omega, by omega, by omega, by rw [List.length_take]; omega⟩, if_pos (by rw [List.length_take, List.length_singleton]; omega), if_pos ⟨by omega, by omega, by omega, by rw [List.length_append, List.length_take, List.length_singleton, List.length_drop]; omega⟩]
    rw [fin]
    by_cases h : i < l.length
    · rw [decide_eq_true (by omega : (i : Int) < (l.length : Int)), Bool.true_and, Bool.true_and, if_pos ⟨fun _ => by omega, fun _ => by omega⟩, Int.toNat_natCast, hz, drop_cons' l i 0 h, ins]
      by_cases h1 : l.getD i 0 < n
      · rw [decide_eq_true h1, cond_true, if_pos h1, wrapS i (by omega), ih (i + 1) (by omega) (by omega), take_snoc l i 0 h]
        simp
      · rw [decide_eq_false h1, cond_false, if_neg h1]
        by_cases h2 : l.getD i 0 = n
        · rw [show (l.getD i 0 == n) = true from beq_iff_eq.2 h2, cond_true, if_pos h2, ← drop_cons' l i 0 h, List.take_append_drop]
        · rw [show (l.getD i 0 == n) = false from beqf h2, cond_false, if_neg h2]
          simp
    · rw [decide_eq_false (by omega : ¬ (i : Int) < (l.length : Int)), Bool.false_and, Bool.false_and, cond_false, if_pos ⟨fun e => (by cases e), fun e => (by cases e)⟩, cond_false, drop_all l i (by omega)]
      simp [ins]
theorem ref04_with_s (k : Nat) (l : List Int) (hl : l.length ≤ 10000) (hk : l.length < k) (n : Int) : f_u48 k l n = some (ins l n) := ref04_with_l k l hl n k 0 (by omega) (by omega)
theorem ref04_with_v (k : Nat) (l : List Int) (hl : l.length ≤ 10000) (hk : l.length < k) (n : Int) : v_u48 k l n = ins l n := by
  unfold v_u48; rw [ref04_with_s k l hl hk]; rfl

theorem ref04_ends_l (k : Nat) (hk : 2000 ≤ k) (a : List Sp) (hl : a.length ≤ 256) : ∀ (j i : Nat) (acc : List Int), i ≤ a.length → a.length - i + 1 < j → acc.length ≤ 2 * i →
    f_u47_3 k j a [] acc (i : Int) = some (cutsF acc (a.drop i)) := by
  intro j
  induction j with
  | zero => intros; omega
  | succ j ih =>
    intro i acc hi hj ha
    rw [f_u47_3]
    by_cases h : i < a.length
    · rw [decide_eq_true (by omega : (i : Int) < (a.length : Int)), cond_true, drop_cons' a i T15.dflt h, Int.toNat_natCast, cutsF]
      generalize a.getD i T15.dflt = s
      have h1 := ins_len acc s.1
      have h2 := ins_len (ins acc s.1) s.2
      rw [ref04_with_s k acc (by omega) (by omega), ref04_with_v k acc (by omega) (by omega), ref04_with_s k (ins acc s.fst) (by omega) (by omega), ref04_with_v k (ins acc s.fst) (by omega) (by omega), if_pos ⟨by omega, by omega, rfl, by omega, by omega, rfl⟩, wrapS i (by omega)]
      exact ih (i + 1) _ (by omega) (by omega) (by omega)
    · obtain ⟨j, rfl⟩ : ∃ m, j = m + 1 := ⟨j - 1, by omega⟩
      rw [decide_eq_false (by omega : ¬ (i : Int) < (a.length : Int)), cond_false, drop_all a i (by omega), f_u47_7]
      rfl
theorem ref04_ends_s (k : Nat) (hk : 2000 ≤ k) (a : List Sp) (hl : a.length ≤ 256) : f_u47 k a [] = some (cutsF [] a) := ref04_ends_l k hk a hl k 0 [] (by omega) (by omega) (by simp)
theorem ref04_ends_v (k : Nat) (hk : 2000 ≤ k) (a : List Sp) (hl : a.length ≤ 256) : v_u47 k a [] = cutsF [] a := by
  unfold v_u47; rw [ref04_ends_s k hk a hl]; rfl

theorem ref04_Has_l (k : Nat) (a : List Sp) (hl : a.length ≤ 10000) (x : Int) : ∀ (j i : Nat), i ≤ a.length → a.length - i < j →
    f_u42_2 k j a x (i : Int) = some (hasB (a.drop i) x) := by
  intro j
  induction j with
  | zero => intros; omega
  | succ j ih =>
    intro i hi hj
    rw [f_u42_2]
    by_cases h : i < a.length
    · rw [decide_eq_true (by omega : (i : Int) < (a.length : Int)), cond_true, if_pos ⟨by omega, by omega, fun _ => by omega, fun _ => by omega⟩, drop_cons' a i T15.dflt h, Int.toNat_natCast]
      generalize a.getD i T15.dflt = s
      show _ = some ((decide (s.1 ≤ x) && decide (x < s.2)) || hasB (a.drop (i + 1)) x)
      cases hc : (decide (s.fst ≤ x) && decide (x < s.snd))
      · rw [cond_false, Bool.false_or, wrapS i (by omega)]
        exact ih (i + 1) (by omega) (by omega)
      · rw [cond_true, Bool.true_or]
    · rw [decide_eq_false (by omega : ¬ (i : Int) < (a.length : Int)), cond_false, drop_all a i (by omega)]
      rfl
theorem ref04_Has_s (k : Nat) (a : List Sp) (hl : a.length ≤ 10000) (hk : a.length < k) (x : Int) : f_u42 k a x = some (hasB a x) := ref04_Has_l k a hl x k 0 (by omega) (by omega)
theorem ref04_Has_v (k : Nat) (a : List Sp) (hl : a.length ≤ 10000) (hk : a.length < k) (x : Int) : v_u42 k a x = hasB a x := by
  unfold v_u42; rw [ref04_Has_s k a hl hk]; rfl

theorem ref04_combine_l (k : Nat) (hk : 300 ≤ k) (a : List Sp) (hl : a.length ≤ 256) (c : List Int) (hc : c.length ≤ 10000) : ∀ (j i : Nat), i ≤ c.length → c.length - i < j →
    f_u46_4 k j a [] 0 c (i : Int) [] = some (cmb0 a (c.drop i)) ∧
    ∀ (pre : List Sp) (l : Sp), pre.length ≤ i → f_u46_4 k j a [] 0 c (i : Int) (pre ++ [l]) = some (pre ++ cmb1 a l (c.drop i)) := by
  intro j
  induction j with
  | zero => intros; omega
  | succ j ih =>
    intro i hi hj
    have hz : I.dflt = (0 : Int) := rfl
    by_cases h : i + 1 < c.length
    · obtain ⟨ih1, ih2⟩ := ih (i + 1) (by omega) (by omega)
      have hd1 := drop_cons' c i 0 (by omega)
      have hd2 := drop_cons' c (i + 1) 0 h
      rw [hd2] at hd1 ih1 ih2
      generalize hx : c.getD i 0 = x at *
      generalize hy : c.getD (i + 1) 0 = y at *
      have hskip : ∀ b : Bool, ((0 : Int) == 0 && !b && !false || (0 : Int) == 1 && !(b && false) || (0 : Int) == 2 && (!b || false)) = !b := fun b => by cases b <;> rfl
      have hno : hasB ([] : List Sp) x = false := rfl
      refine ⟨?_, fun pre l hp => ?_⟩
      · rw [f_u46_4, wrapS i (by omega), decide_eq_true (by omega), cond_true, Int.toNat_natCast, Int.toNat_natCast, hz, hx, hy, ref04_Has_s k a (by omega) (by omega), ref04_Has_v k a (by omega) (by omega), ref04_Has_s k [] (by simp) (by simp; omega), ref04_Has_v k [] (by simp) (by simp; omega), hno, if_pos ⟨by omega, by omega, rfl, by omega, by omega, rfl⟩, hskip, hd1, cmb0]
        cases hb : hasB a x
        · rw [Bool.not_false, cond_true, if_neg (by decide)]; exact ih1
        · rw [Bool.not_true, cond_false, if_pos rfl]
          have hm : IntKind.i64.wrap ((([] : List Sp).length : Int) - 1) = -1 := by rw [List.length_nil, wrap_id (by omega) (by omega)]; rfl
          rw [hm, if_pos (show (decide ((-1 : Int) ≥ 0) = true → (0 : Int) ≤ -1) ∧ (decide ((-1 : Int) ≥ 0) = true → (-1 : Int) < (([] : List Sp).length : Int)) ∧ (decide ((-1 : Int) ≥ 0) = true → (0 : Int) ≤ (i : Int)) ∧ (decide ((-1 : Int) ≥ 0) = true → (i : Int) < (c.length : Int)) from ⟨fun e => (by cases e), fun e => (by cases e), fun e => (by cases e), fun e => (by cases e)⟩), show decide ((-1 : Int) ≥ 0) = false from rfl, Bool.false_and, cond_false]
          rw [if_pos ⟨by omega, by omega, by omega, by omega, by simp⟩, List.nil_append]
          have := ih2 [] (x, y) (by simp)
          simpa using this
      · have hlen : (pre ++ [l]).length = pre.length + 1 := by simp
        have hidx : (0 : Int) ≤ IntKind.i64.wrap (((pre ++ [l]).length : Int) - 1) ∧ IntKind.i64.wrap (((pre ++ [l]).length : Int) - 1) < ((pre ++ [l]).length : Int) := by
          rw [hlen, wrap_id (by omega) (by omega)]; exact ⟨by omega, by omega⟩
        rw [f_u46_4, wrapS i (by omega), decide_eq_true (by omega), cond_true, Int.toNat_natCast, Int.toNat_natCast, hz, hx, hy, ref04_Has_s k a (by omega) (by omega), ref04_Has_v k a (by omega) (by omega), ref04_Has_s k [] (by simp) (by simp; omega), ref04_Has_v k [] (by simp) (by simp; omega), hno, if_pos ⟨by omega, by omega, rfl, by omega, by omega, rfl⟩, hskip, hd1, cmb1]
        cases hb : hasB a x
        · rw [Bool.not_false, cond_true, if_neg (by decide)]; exact ih2 pre l (by omega)
        · rw [Bool.not_true, cond_false, if_pos rfl, decide_eq_true hidx.1, Bool.true_and, last_idxS pre l (by omega), last_getS, last_setS]
          rw [if_pos ⟨fun _ => hidx.1, fun _ => hidx.2, fun _ => by omega, fun _ => by omega⟩]
          by_cases hq : l.2 = x
          · rw [show (l.snd == x) = true by simp [hq], cond_true, if_pos ⟨by omega, by omega, hidx.1, hidx.2⟩, if_pos hq]
            exact ih2 pre (l.1, y) (by omega)
          · rw [show (l.snd == x) = false from beqf hq, cond_false, if_pos ⟨by omega, by omega, by omega, by omega, by rw [hlen, List.length_singleton]; omega⟩, if_neg hq]
            rw [ih2 (pre ++ [l]) (x, y) (by simp; omega)]
            simp
    · have hstop : decide (IntKind.i64.wrap ((i : Int) + 1) < (c.length : Int)) = false := by rw [wrapS i (by omega)]; exact decide_eq_false (by omega)
      have hd : c.drop i = [] ∨ ∃ x, c.drop i = [x] := by
        by_cases h2 : i < c.length
        · right
          rw [drop_cons' c i 0 h2, drop_all c (i + 1) (by omega)]
          exact ⟨_, rfl⟩
        · left; exact drop_all c i (by omega)
      refine ⟨?_, fun pre l hp => ?_⟩
      · rw [f_u46_4, hstop, cond_false]
        rcases hd with e | ⟨x, e⟩ <;> rw [e] <;> rfl
      · rw [f_u46_4, hstop, cond_false]
        rcases hd with e | ⟨x, e⟩ <;> rw [e] <;> rfl

theorem ref04_Norm_s (k : Nat) (hk : 2000 ≤ k) (l : List Sp) : f_u43 k l = some (normS l) := by
  have e : f_u45 k l [] 0 = some (normS l) := by
    unfold f_u45 normS
    rw [ref04_Check_s k (by omega), ref04_Check_v k (by omega), ref04_Check_s k (by omega), ref04_Check_v k (by omega), Option.isSome_some, if_pos rfl]
    by_cases h1 : chkS l = 0
    · obtain ⟨l1, l2⟩ := chkS_zero.1 h1
      have hnl := nf_len l2
      have hcl := cutsF_len l []
      rw [show (chkS l != 0) = false by simp [h1], cond_false, if_neg (fun h : chkS l ≠ 0 => h h1), Option.isSome_some, if_pos rfl, show (chkS [] != 0) = false from rfl, cond_false]
      have ec : f_u46 k l [] 0 = some (nf l) := by
        unfold f_u46
        rw [ref04_ends_s k hk l l1, ref04_ends_v k hk l l1, Option.isSome_some, if_pos rfl]
        have := (ref04_combine_l k (by omega) l l1 (cutsF [] l) (by simp at hcl; omega) k 0 (by omega) (by simp at hcl; omega)).1
        rw [List.drop_zero, cmb_nf l2] at this
        exact this
      have ev : v_u46 k l [] 0 = nf l := by unfold v_u46; rw [ec]; rfl
      rw [ec, ev, Option.isSome_some, if_pos rfl, decide_eq_false (by omega), cond_false]
    · rw [show (chkS l != 0) = true by simp [h1], cond_true, if_pos h1]
  have ev : v_u45 k l [] 0 = normS l := by unfold v_u45; rw [e]; rfl
  unfold f_u43
  rw [e, ev]; rfl
theorem ref04_Norm_v (k : Nat) (hk : 2000 ≤ k) (l : List Sp) : v_u43 k l = normS l := by
  unfold v_u43; rw [ref04_Norm_s k hk]; rfl

theorem ref04_Total_l (k : Nat) (a : List Sp) (e : Int) (h : In 0 17179869184 a) (hl : a.length ≤ 256) : ∀ (j i : Nat) (n : Int), i ≤ a.length → a.length - i < j → 0 ≤ n → n ≤ (i : Int) * 17179869184 →
    f_u44_4 k j a e n (i : Int) = some (n + tot (a.drop i), e) := by
  intro j
  induction j with
  | zero => intros; omega
  | succ j ih =>
    intro i n hi hj h0 h1
    rw [f_u44_4]
    by_cases h' : i < a.length
    · have hm := h.mem (a.getD i T15.dflt) (by simp [h'])
      rw [decide_eq_true (by omega : (i : Int) < (a.length : Int)), cond_true, if_pos ⟨by omega, by omega, by omega, by omega⟩, drop_cons' a i T15.dflt h', Int.toNat_natCast]
      generalize a.getD i T15.dflt = s at hm
      rw [wrap_id (i := n + s.snd) (by omega) (by omega), wrap_id (i := n + s.snd - s.fst) (by omega) (by omega), wrapS i (by omega), ih (i + 1) _ (by omega) (by omega) (by omega) (by omega), tot]
      congr 2; omega
    · rw [decide_eq_false (by omega : ¬ (i : Int) < (a.length : Int)), cond_false, drop_all a i (by omega)]
      simp [tot]
theorem ref04_Total_s (k : Nat) (hk : 2000 ≤ k) (l : List Sp) : f_u44 k l = some (totalS l) := by
  unfold f_u44 totalS
  rw [ref04_Norm_s k hk, ref04_Norm_v k hk, Option.isSome_some, if_pos rfl]
  unfold normS
  by_cases h1 : chkS l = 0
  · obtain ⟨l1, l2⟩ := chkS_zero.1 h1
    have hnl := nf_len l2
    rw [if_neg (fun h : chkS l ≠ 0 => h h1), if_neg (fun h : chkS l ≠ 0 => h h1)]
    have := ref04_Total_l k (nf l) 0 (nf_in l2) (by omega) k 0 0 (by omega) (by omega) (by omega) (by omega)
    rw [Int.zero_add] at this
    exact this
  · rw [if_pos h1, if_pos h1]
    have := ref04_Total_l k [] (chkS l) trivial (by simp) k 0 0 (by simp) (by simp; omega) (by omega) (by omega)
    exact this
theorem ref04_Total_v (k : Nat) (hk : 2000 ≤ k) (l : List Sp) : v_u44 k l = totalS l := by
  unfold v_u44; rw [ref04_Total_s k hk]; rfl
end Go.AM
namespace Go.AM
open Go

/-! ### registers of rolls -/
abbrev Ch := Int × Int × Bool × List Rn   -- Left, Width, Turn, Runs
abbrev Ro := Int × Int × Ch               -- ID, Parent, Cut
abbrev Pt := Int × Int × Int              -- Roll, Across, Along

def look (l : List Ro) (id : Int) : Option Ro := l.find? fun r => r.1 == id

def imageS (m : List Rn) : List Sp × Int := if chk m ≠ 0 then ([], chk m) else (nf (m.map spn), 0)
def singleS (m : List Rn) : Bool := decide (chk m = 0) && (tot (nf (m.map spn)) == lenS m)

/-- the size of a roll, or of the web -/
def sizeS (l : List Ro) (W L id : Int) : Int × Int := if id = 0 then (W, L) else match look l id with
  | some r => (r.2.2.2.1, lenS r.2.2.2.2.2)
  | none => (0, 0)

/-- the error of a cut of a roll of a size -/
def cutE (c : Ch) (w n : Int) : Int :=
  if c.1 < 0 ∨ c.2.1 < 1 ∨ c.1 > w ∨ c.2.1 > w - c.1 then 20 else if chk c.2.2.2 ≠ 0 then chk c.2.2.2 else if c.2.2.2 = [] then 10
  else if singleS c.2.2.2 = false then 12 else if fitsIn n c.2.2.2 then 0 else 21
/-- the error of a roll behind others -/
def fitsS (p : List Ro) (W L : Int) (r : Ro) : Int :=
  if r.1 < 1 ∨ r.1 > 1000000 then 1 else if r.2.1 ≠ 0 ∧ look p r.2.1 = none then 7 else cutE r.2.2 (sizeS p W L r.2.1).1 (sizeS p W L r.2.1).2

def meetS (a b : List Rn) : Bool := a.any fun x => b.any fun y => decide (lo x ≤ hi y) && decide (lo y ≤ hi x)
def ovlS (a b : Ch) : Bool := (decide (a.1 < b.1 + b.2.1) && decide (b.1 < a.1 + a.2.1)) && meetS a.2.2.2 b.2.2.2
def clash (p : List Ro) (r : Ro) : Bool := p.any fun b => (r.2.1 == b.2.1) && ovlS r.2.2 b.2.2

def errsGo (W L : Int) : List Ro → List Ro → Int
  | _, [] => 0
  | p, r :: t => if fitsS p W L r ≠ 0 then fitsS p W L r else errsGo W L (p ++ [r]) t
def dupGo : List Ro → List Ro → Bool
  | _, [] => false
  | p, r :: t => (look p r.1).isSome || dupGo (p ++ [r]) t
def clashGo : List Ro → List Ro → Bool
  | _, [] => false
  | p, r :: t => clash p r || clashGo (p ++ [r]) t

/-- the error of a register -/
def checkS (l : List Ro) (W L : Int) : Int :=
  if W < 1 ∨ W > 12000 ∨ L < 0 ∨ L > 17179869184 then 1 else if l.length > 512 then 8 else if errsGo W L [] l ≠ 0 then errsGo W L [] l
  else if dupGo [] l = true then 6 else if clashGo [] l = true then 12 else 0

theorem look_append (a b : List Ro) (id : Int) : look (a ++ b) id = (look a id).or (look b id) := by
  unfold look; exact List.find?_append
theorem look_some {l : List Ro} {id : Int} {r : Ro} (h : look l id = some r) : r ∈ l ∧ r.1 = id := by
  unfold look at h
  exact ⟨List.mem_of_find?_eq_some h, by have := List.find?_some h; simpa using this⟩
structure CutOk (c : Ch) (w n : Int) : Prop where
  left : 0 ≤ c.1
  width : 1 ≤ c.2.1
  right : c.1 + c.2.1 ≤ w
  chk : Chk c.2.2.2
  ne : c.2.2.2 ≠ []
  single : singleS c.2.2.2 = true
  fits : fitsIn n c.2.2.2
theorem cutE_zero {c : Ch} {w n : Int} : cutE c w n = 0 ↔ CutOk c w n := by
  unfold cutE
  constructor
  · intro h
    by_cases h1 : c.1 < 0 ∨ c.2.1 < 1 ∨ c.1 > w ∨ c.2.1 > w - c.1
    · rw [if_pos h1] at h; omega
    · rw [if_neg h1] at h
      by_cases h2 : chk c.2.2.2 ≠ 0
      · rw [if_pos h2] at h; exact absurd h h2
      · rw [if_neg h2] at h
        by_cases h3 : c.2.2.2 = []
        · rw [if_pos h3] at h; omega
        · rw [if_neg h3] at h
          by_cases h4 : singleS c.2.2.2 = false
          · rw [if_pos h4] at h; omega
          · rw [if_neg h4] at h
            by_cases h5 : fitsIn n c.2.2.2
            · exact ⟨by omega, by omega, by omega, chk_zero.1 (Classical.not_not.1 h2), h3, by simpa using h4, h5⟩
            · rw [if_neg h5] at h; omega
  · rintro ⟨h1, h2, h3, h4, h5, h6, h7⟩
    rw [if_neg (by omega), if_neg (fun h => h (chk_zero.2 h4)), if_neg h5, if_neg (by simp [h6]), if_pos h7]
structure FitOk (p : List Ro) (W L : Int) (r : Ro) : Prop where
  id0 : 1 ≤ r.1
  id1 : r.1 ≤ 1000000
  parent : r.2.1 = 0 ∨ ∃ q, look p r.2.1 = some q
  cut : CutOk r.2.2 (sizeS p W L r.2.1).1 (sizeS p W L r.2.1).2
theorem fitsS_zero {p : List Ro} {W L : Int} {r : Ro} : fitsS p W L r = 0 ↔ FitOk p W L r := by
  unfold fitsS
  constructor
  · intro h
    by_cases h1 : r.1 < 1 ∨ r.1 > 1000000
    · rw [if_pos h1] at h; omega
    · rw [if_neg h1] at h
      by_cases h2 : r.2.1 ≠ 0 ∧ look p r.2.1 = none
      · rw [if_pos h2] at h; omega
      · rw [if_neg h2] at h
        refine ⟨by omega, by omega, ?_, cutE_zero.1 h⟩
        by_cases h3 : r.2.1 = 0
        · exact .inl h3
        · right
          cases h4 : look p r.2.1 with
          | none => exact absurd ⟨h3, h4⟩ h2
          | some q => exact ⟨q, rfl⟩
  · rintro ⟨h1, h2, h3, h4⟩
    rw [if_neg (by omega), if_neg (fun h => by
      rcases h3 with h3 | ⟨q, h3⟩
      · exact h.1 h3
      · rw [h3] at h; cases h.2), cutE_zero.2 h4]

/-- a valid register: each roll fits behind those before it, is of a new number, and clashes with none -/
inductive Okp (W L : Int) : List Ro → Prop
  | nil : Okp W L []
  | snoc (p : List Ro) (r : Ro) (h : Okp W L p) (f : FitOk p W L r) (n : look p r.1 = none) (c : clash p r = false) : Okp W L (p ++ [r])
structure Reg (l : List Ro) (W L : Int) : Prop where
  w : 1 ≤ W ∧ W ≤ 12000
  len : 0 ≤ L ∧ L ≤ 17179869184
  num : l.length ≤ 512
  ok : Okp W L l
theorem okp_go {W L : Int} : ∀ (t p : List Ro), Okp W L p → errsGo W L p t = 0 → dupGo p t = false → clashGo p t = false → Okp W L (p ++ t)
  | [], p, h, _, _, _ => by simpa using h
  | r :: t, p, h, he, hd, hc => by
    rw [errsGo] at he
    rw [dupGo, Bool.or_eq_false_iff] at hd
    rw [clashGo, Bool.or_eq_false_iff] at hc
    have hf : fitsS p W L r = 0 := by
      by_cases q : fitsS p W L r = 0
      · exact q
      · rw [if_pos q] at he; exact absurd he q
    rw [if_neg (fun h => h hf)] at he
    have := okp_go t (p ++ [r]) (.snoc p r h (fitsS_zero.1 hf) (by cases e : look p r.1 <;> simp_all) hc.1) he hd.2 hc.2
    simpa using this
theorem go_okp {W L : Int} {l : List Ro} (h : Okp W L l) : ∀ (t p : List Ro), l = p ++ t → errsGo W L p t = 0 ∧ dupGo p t = false ∧ clashGo p t = false := by
  induction h with
  | nil =>
    intro t p e
    have : t = [] ∧ p = [] := by
      have := e.symm
      simp at this
      exact ⟨this.2, this.1⟩
    obtain ⟨rfl, rfl⟩ := this
    exact ⟨rfl, rfl, rfl⟩
  | snoc q r h f n c ih =>
    intro t p e
    rcases List.eq_nil_or_concat t with rfl | ⟨t', r', rfl⟩
    · exact ⟨rfl, rfl, rfl⟩
    · rw [List.concat_eq_append] at *
      rw [← List.append_assoc] at e
      obtain ⟨e1, e2⟩ := List.append_inj' e rfl
      simp only [List.cons.injEq, and_true] at e2
      subst e2
      obtain ⟨i1, i2, i3⟩ := ih t' p e1
      have key : ∀ (t' p : List Ro), errsGo W L p t' = 0 → dupGo p t' = false → clashGo p t' = false → fitsS (p ++ t') W L r = 0 → look (p ++ t') r.1 = none → clash (p ++ t') r = false → errsGo W L p (t' ++ [r]) = 0 ∧ dupGo p (t' ++ [r]) = false ∧ clashGo p (t' ++ [r]) = false := fun t' => by
        induction t' with
        | nil =>
          intro p _ _ _ a b c
          rw [List.append_nil] at a b c
          rw [List.nil_append, errsGo, dupGo, clashGo, if_neg (fun h => h a), b, c]
          exact ⟨rfl, rfl, rfl⟩
        | cons u v ih =>
          intro p a1 a2 a3 a4 a5 a6
          rw [errsGo] at a1
          rw [dupGo, Bool.or_eq_false_iff] at a2
          rw [clashGo, Bool.or_eq_false_iff] at a3
          have hf : fitsS p W L u = 0 := by
            by_cases q : fitsS p W L u = 0
            · exact q
            · rw [if_pos q] at a1; exact absurd a1 q
          rw [if_neg (fun h => h hf)] at a1
          have e3 : p ++ u :: v = p ++ [u] ++ v := by simp
          rw [e3] at a4 a5 a6
          obtain ⟨b1, b2, b3⟩ := ih (p ++ [u]) a1 a2.2 a3.2 a4 a5 a6
          rw [List.cons_append, errsGo, dupGo, clashGo, if_neg (fun h => h hf), a2.1, a3.1]
          exact ⟨b1, b2, b3⟩
      rw [e1] at f n c
      exact key t' p i1 i2 i3 (fitsS_zero.2 f) n c
theorem checkS_zero {l : List Ro} {W L : Int} : checkS l W L = 0 ↔ Reg l W L := by
  unfold checkS
  constructor
  · intro h
    by_cases h1 : W < 1 ∨ W > 12000 ∨ L < 0 ∨ L > 17179869184
    · rw [if_pos h1] at h; omega
    · rw [if_neg h1] at h
      by_cases h2 : l.length > 512
      · rw [if_pos h2] at h; omega
      · rw [if_neg h2] at h
        by_cases h3 : errsGo W L [] l ≠ 0
        · rw [if_pos h3] at h; exact absurd h h3
        · rw [if_neg h3] at h
          by_cases h4 : dupGo [] l = true
          · rw [if_pos h4] at h; omega
          · rw [if_neg h4] at h
            by_cases h5 : clashGo [] l = true
            · rw [if_pos h5] at h; omega
            · have := okp_go l [] (W := W) (L := L) .nil (Classical.not_not.1 h3) (by simpa using h4) (by simpa using h5)
              exact ⟨by omega, by omega, by omega, by simpa using this⟩
  · rintro ⟨h1, h2, h3, h4⟩
    obtain ⟨a, b, c⟩ := go_okp h4 l [] rfl
    rw [if_neg (by omega), if_neg (by omega), if_neg (fun h => h a), if_neg (by rw [b]; decide), if_neg (by rw [c]; decide)]
/-! ### images, and whether they are single -/
theorem spn_in {m : List Rn} (h : goods m) : In 0 17179869184 (m.map spn) := In.of fun s hs => by
  obtain ⟨r, hr, rfl⟩ := List.mem_map.1 hs
  obtain ⟨a, b, c, d⟩ := (h.mem r hr).lohi
  exact ⟨a, by show lo r ≤ hi r + 1; omega, by show hi r + 1 ≤ _; omega⟩
theorem normS_spn {m : List Rn} (h : Chk m) : normS (m.map spn) = (nf (m.map spn), 0) := by
  unfold normS
  rw [if_neg (fun e => e (chkS_zero.2 ⟨by rw [List.length_map]; exact h.len, spn_in h.goods⟩))]
theorem totalS_nf {m : List Rn} (h : Chk m) : totalS (nf (m.map spn)) = (tot (nf (m.map spn)), 0) := by
  have hi := spn_in h.goods
  have hl := nf_len hi
  have hm := h.len
  rw [List.length_map] at hl
  unfold totalS
  rw [if_neg (fun e => e (chkS_zero.2 ⟨by omega, nf_in hi⟩)), nf_self (nf_in hi) (nf_nr hi)]

theorem iso_images_s (k : Nat) (r : Rn) (h : good r) : f_u30 k r = some (spn r) := by
  have h' := h
  obtain ⟨g1, g2, g3, g4, _⟩ := h'
  obtain ⟨l1, l2, l3, l4⟩ := h.lohi
  unfold f_u30
  rw [wrap_id (i := r.snd.fst - 1) (by omega) (by omega), iso_image_s k r _ (by omega) (by omega) (by omega) (by omega), iso_image_v k r _ (by omega) (by omega) (by omega) (by omega), max_ends h, min_ends h, wrap_id (by omega) (by omega)]
  rfl
theorem iso_images_v (k : Nat) (r : Rn) (h : good r) : v_u30 k r = spn r := by
  unfold v_u30; rw [iso_images_s k r h]; rfl

theorem iso_Image_l (k : Nat) (hk : 2100 ≤ k) (m : List Rn) (hc : Chk m) : ∀ (j i : Nat), i ≤ m.length → m.length - i + 1 < j →
    f_u22_6 k j m (m.length : Int) (i : Int) ((m.take i).map spn) = some (nf (m.map spn), 0) := by
  have hml := hc.len
  intro j
  induction j with
  | zero => intros; omega
  | succ j ih =>
    intro i hi hj
    rw [f_u22_6]
    by_cases h : i < m.length
    · have hgr : good (m.getD i T0.dflt) := hc.goods.mem _ (by simp [h])
      have ht := take_snoc m i T0.dflt h
      have := ih (i + 1) (by omega) (by omega)
      rw [ht, List.map_append] at this
      rw [decide_eq_true (by omega : (i : Int) < (m.length : Int)), cond_true, if_pos ⟨by omega, by omega⟩, Int.toNat_natCast, iso_images_s k _ hgr, iso_images_v k _ hgr, if_pos ⟨rfl, by rw [List.length_map, List.length_take, List.length_singleton]; omega⟩, wrapS i (by omega)]
      exact this
    · obtain ⟨j, rfl⟩ : ∃ q, j = q + 1 := ⟨j - 1, by omega⟩
      rw [decide_eq_false (by omega : ¬ (i : Int) < (m.length : Int)), cond_false, List.take_of_length_le (by omega), f_u22_10, span_Norm_s k hk, span_Norm_v k hk, normS_spn hc]
      rfl
theorem iso_Image_s (k : Nat) (hk : 2100 ≤ k) (m : List Rn) : f_u22 k m = some (imageS m) := by
  unfold f_u22 imageS
  rw [iso_Check_s k (by omega), iso_Check_v k (by omega), Option.isSome_some, if_pos rfl]
  by_cases h1 : chk m = 0
  · have hc := chk_zero.1 h1
    have hml := hc.len
    rw [show (chk m != 0) = false by simp [h1], cond_false, if_neg (fun h : chk m ≠ 0 => h h1)]
    exact iso_Image_l k hk m hc k 0 (by omega) (by omega)
  · rw [show (chk m != 0) = true by simp [h1], cond_true, if_pos h1]
theorem iso_Image_v (k : Nat) (hk : 2100 ≤ k) (m : List Rn) : v_u22 k m = imageS m := by
  unfold v_u22; rw [iso_Image_s k hk]; rfl

theorem iso_Single_s (k : Nat) (hk : 2100 ≤ k) (m : List Rn) : f_u24 k m = some (singleS m) := by
  unfold f_u24 singleS
  rw [iso_Image_s k hk, iso_Image_v k hk, Option.isSome_some, if_pos rfl]
  unfold imageS
  by_cases h1 : chk m = 0
  · have hc := chk_zero.1 h1
    have hml := hc.len
    rw [if_neg (fun h : chk m ≠ 0 => h h1), decide_eq_true h1, Bool.true_and]
    show (bif (0 : Int) != 0 then _ else _) = _
    rw [show ((0 : Int) != 0) = false from rfl, cond_false]
    show (if (f_u109 k (nf (m.map spn))).isSome = true then _ else none) = _
    rw [span_Total_s k (by omega)]
    show (bif ((v_u109 k (nf (m.map spn))).snd == 0) then _ else _) = _
    rw [span_Total_v k (by omega), totalS_nf hc, iso_length_s k m hc.goods (by omega) (by omega), iso_length_v k m hc.goods (by omega) (by omega)]
    rfl
  · rw [if_pos h1, decide_eq_false h1, Bool.false_and]
    show (bif chk m != 0 then some false else _) = _
    rw [show (chk m != 0) = true by simp [h1], cond_true]
theorem iso_Single_v (k : Nat) (hk : 2100 ≤ k) (m : List Rn) : v_u24 k m = singleS m := by
  unfold v_u24; rw [iso_Single_s k hk]; rfl

theorem ref13_Image_l (k : Nat) (hk : 2100 ≤ k) (m : List Rn) (hc : Chk m) : ∀ (j i : Nat), i ≤ m.length → m.length - i + 1 < j →
    f_u52_6 k j m (i : Int) ((m.take i).map spn) = some (nf (m.map spn), 0) := by
  have hml := hc.len
  intro j
  induction j with
  | zero => intros; omega
  | succ j ih =>
    intro i hi hj
    rw [f_u52_6]
    by_cases h : i < m.length
    · have hgr : good (m.getD i T0.dflt) := hc.goods.mem _ (by simp [h])
      have ht := take_snoc m i T0.dflt h
      have := ih (i + 1) (by omega) (by omega)
      rw [ht, List.map_append] at this
      rw [decide_eq_true (by omega : (i : Int) < (m.length : Int)), cond_true, Int.toNat_natCast]
      generalize m.getD i T0.dflt = r at hgr this
      have h' := hgr
      obtain ⟨g1, g2, g3, g4, _⟩ := h'
      obtain ⟨l1, l2, l3, l4⟩ := hgr.lohi
      rw [wrap_id (i := r.snd.fst - 1) (by omega) (by omega), ref13_image_s k r _ (by omega) (by omega) (by omega) (by omega), ref13_image_v k r _ (by omega) (by omega) (by omega) (by omega), max_ends hgr, min_ends hgr, wrap_id (i := Go.AM.hi r + 1) (by omega) (by omega), if_pos ⟨by omega, by omega, by omega, by omega, by omega, by omega, rfl⟩, if_pos (by rw [List.length_map, List.length_take, List.length_singleton]; omega), wrapS i (by omega)]
      exact this
    · obtain ⟨j, rfl⟩ : ∃ q, j = q + 1 := ⟨j - 1, by omega⟩
      rw [decide_eq_false (by omega : ¬ (i : Int) < (m.length : Int)), cond_false, List.take_of_length_le (by omega), f_u52_10, ref04_Norm_s k (by omega), ref04_Norm_v k (by omega), normS_spn hc]
      rfl
theorem ref13_Image_s (k : Nat) (hk : 2100 ≤ k) (m : List Rn) : f_u52 k m = some (imageS m) := by
  unfold f_u52 imageS
  rw [ref13_Check_s k (by omega), ref13_Check_v k (by omega), Option.isSome_some, if_pos rfl]
  by_cases h1 : chk m = 0
  · have hc := chk_zero.1 h1
    have hml := hc.len
    rw [show (chk m != 0) = false by simp [h1], cond_false, if_neg (fun h : chk m ≠ 0 => h h1)]
    exact ref13_Image_l k hk m hc k 0 (by omega) (by omega)
  · rw [show (chk m != 0) = true by simp [h1], cond_true, if_pos h1]
theorem ref13_Image_v (k : Nat) (hk : 2100 ≤ k) (m : List Rn) : v_u52 k m = imageS m := by
  unfold v_u52; rw [ref13_Image_s k hk]; rfl
theorem ref13_Single_s (k : Nat) (hk : 2100 ≤ k) (m : List Rn) : f_u53 k m = some (singleS m) := by
  unfold f_u53 singleS
  rw [ref13_Check_s k (by omega), ref13_Check_v k (by omega), Option.isSome_some, if_pos rfl]
  by_cases h1 : chk m = 0
  · have hc := chk_zero.1 h1
    have hml := hc.len
    rw [show (chk m != 0) = false by simp [h1], cond_false, decide_eq_true h1, Bool.true_and, ref13_Image_s k hk, ref13_Image_v k hk]
    unfold imageS
    rw [if_neg (fun h : chk m ≠ 0 => h h1), ref04_Total_s k (by omega), ref04_Total_v k (by omega), totalS_nf hc, ref13_length_s k m hc.goods (by omega) (by omega), ref13_length_v k m hc.goods (by omega) (by omega)]
    rfl
  · rw [show (chk m != 0) = true by simp [h1], cond_true, decide_eq_false h1, Bool.false_and]
theorem ref13_Single_v (k : Nat) (hk : 2100 ≤ k) (m : List Rn) : v_u53 k m = singleS m := by
  unfold v_u53; rw [ref13_Single_s k hk]; rfl
end Go.AM
namespace Go.AM
open Go Go.Proofs
noncomputable section
abbrev R_u7 : Type := Int × Int
def res_u7 (r : R_u7) : AV := .tup [.r (.v (.int .i64 r.1)), .r (.v (.int .i64 r.2))]
def bo_u7 (x_ : T0.T) (r : R_u7) : List (Nat × Blk) := []
def args_u7 (x_ : T0.T) : List AV := [.agg (rvs (enc T0 x_))]
def bin_u7 (x_ : T0.T) : List Blk := []
abbrev C_u7 (x_ : T0.T) (r : R_u7) : Prop := CC Tryz.prog 103 (args_u7 x_) (bin_u7 x_) (res_u7 r) (bo_u7 x_ r)
def f_u7 (k : Nat) (x_ : T0.T) : Option R_u7 :=
  bif x_.2.2 then
  some ((IntKind.i64.wrap (IntKind.i64.wrap (x_.1 - x_.2.1) + 1), x_.1))
  else
  some ((x_.1, IntKind.i64.wrap (IntKind.i64.wrap (x_.1 + x_.2.1) - 1)))
def v_u7 (k : Nat) (x_ : T0.T) : R_u7 := (f_u7 k x_).getD (0, 0)
def ke_u7 (k : Nat) : Ke := (103, fun xs => match xs with
  | [_] => some [false]
  | _ => none, fun xs bs => match xs, bs with
  | [.agg qx_], [] => (decS [] T0 qx_).bind fun x_ => some (.one (res_u7 (v_u7 k x_), bo_u7 x_ (v_u7 k x_)))
  | _, _ => none)
theorem of_u7 (k : Nat) (x_ : T0.T) (r : R_u7) (h : f_u7 k x_ = some r) : C_u7 x_ r := by
  refine CC.of (fn := Tryz.f103) (by kernel_rfl) (by kernel_rfl) (by kernel_rfl) (by kernel_rfl) ?_
  unfold f_u7 at h
  exact go (mkK []) [] [] [.autoB [2, 3] true []] (gT h (fun c h => gL h) fun c h => gL h) (by kernel_rfl)
theorem cc_u7 {k : Nat} {x_ : T0.T} (h : (f_u7 k x_).isSome = true) : C_u7 x_ (v_u7 k x_) := ccG (Φ := C_u7 x_) h (of_u7 k x_)
abbrev R_u10 : Type := Bool
def res_u10 (r : R_u10) : AV := .r (.v (.bool r))
def bo_u10 (a_ : T1.T) (b_ : T1.T) (r : R_u10) : List (Nat × Blk) := []
def args_u10 (a_ : T1.T) (b_ : T1.T) : List AV := [.agg (rvs (enc T1 a_)), .agg (rvs (enc T1 b_))]
def bin_u10 (a_ : T1.T) (b_ : T1.T) : List Blk := []
abbrev C_u10 (a_ : T1.T) (b_ : T1.T) (r : R_u10) : Prop := CC Tryz.prog 85 (args_u10 a_ b_) (bin_u10 a_ b_) (res_u10 r) (bo_u10 a_ b_ r)
def st_u10_4 (y0 : List (T0).T) (y1 : Int) (y2 : Int) (y3 : T1.T) : St := ⟨mkS 65 [(3, .ptr 1000000 0 0), (32, .r (.ro T0 y0)), (33, .r (.v (.int .i64 y1))), (34, .r (.v (.int .i64 y2)))], [(1000000, 0, .var 50 (rvs (enc T1 y3)))]⟩
def st_u10_8 (y0 : Int) (y1 : Int) (y2 : List (T0).T) (y3 : Int) (y4 : Int) (y5 : List (T0).T) (y6 : Int) (y7 : Int) (y8 : T1.T) : St := ⟨mkS 65 [(3, .ptr 1000000 0 0), (7, .r (.v (.int .i64 y0))), (8, .r (.v (.int .i64 y1))), (32, .r (.ro T0 y2)), (33, .r (.v (.int .i64 y3))), (34, .r (.v (.int .i64 y4))), (44, .r (.ro T0 y5)), (45, .r (.v (.int .i64 y6))), (46, .r (.v (.int .i64 y7)))], [(1000000, 0, .var 50 (rvs (enc T1 y8)))]⟩
mutual
def f_u10_4 (k : Nat) : Nat → List (T0).T → Int → Int → T1.T → Option R_u10
  | 0, _, _, _, _ => none
  | j + 1, y0, y1, y2, y3 =>
  bif (decide (y2 < y1)) then
  if (0 ≤ y2) ∧ (y2 < (↑y0.length : Int)) then
  if ((f_u7 k (y0.getD y2.toNat T0.dflt)).isSome = true) then
  f_u10_8 k j ((v_u7 k (y0.getD y2.toNat T0.dflt)).1) ((v_u7 k (y0.getD y2.toNat T0.dflt)).2) y0 y1 y2 y3.2.2.2 ((↑ (List.length y3.2.2.2) : Int)) 0 y3
  else none
  else none
  else
  some false
def f_u10_8 (k : Nat) : Nat → Int → Int → List (T0).T → Int → Int → List (T0).T → Int → Int → T1.T → Option R_u10
  | 0, _, _, _, _, _, _, _, _, _ => none
  | j + 1, y0, y1, y2, y3, y4, y5, y6, y7, y8 =>
  bif (decide (y7 < y6)) then
  if (0 ≤ y7) ∧ (y7 < (↑y5.length : Int)) then
  if ((f_u7 k (y5.getD y7.toNat T0.dflt)).isSome = true) then
  bif (decide (y0 ≤ (v_u7 k (y5.getD y7.toNat T0.dflt)).2) && decide ((v_u7 k (y5.getD y7.toNat T0.dflt)).1 ≤ y1)) then
  some true
  else
  f_u10_8 k j y0 y1 y2 y3 y4 y5 y6 ((IntKind.i64.wrap (y7 + 1))) y8
  else none
  else none
  else
  f_u10_4 k j y2 y3 ((IntKind.i64.wrap (y4 + 1))) y8
end
def f_u10 (k : Nat) (a_ : T1.T) (b_ : T1.T) : Option R_u10 :=
  bif (decide (IntKind.i64.wrap (a_.1 + a_.2.1) ≤ b_.1) || decide (IntKind.i64.wrap (b_.1 + b_.2.1) ≤ a_.1)) then
  some false
  else
  f_u10_4 k k a_.2.2.2 ((↑ (List.length a_.2.2.2) : Int)) 0 b_
def v_u10 (k : Nat) (a_ : T1.T) (b_ : T1.T) : R_u10 := (f_u10 k a_ b_).getD false
def ke_u10 (k : Nat) : Ke := (85, fun xs => match xs with
  | [_, _] => some [false, false]
  | _ => none, fun xs bs => match xs, bs with
  | [.agg qa_, .agg qb_], [] => (decS [] T1 qa_).bind fun a_ => (decS [] T1 qb_).bind fun b_ => some (.one (res_u10 (v_u10 k a_ b_), bo_u10 a_ b_ (v_u10 k a_ b_)))
  | _, _ => none)
def cs_u10 : List (Nat × List Cmd) := [(4, [.autoB [3, 32, 33, 34] false []]), (8, [.autoB [3, 7, 8, 32, 33, 34, 44, 45, 46] false []])]
abbrev E_u10 (a_ : T1.T) (b_ : T1.T) (todo : List Item) (st : St) (o : Option R_u10) : Prop := ∀ r, o = some r → Ev Tryz.prog Tryz.f85 0 todo st (res_u10 r) (bo_u10 a_ b_ r)
theorem ev_u10 (k : Nat) (a_ : T1.T) (b_ : T1.T) : ∀ j, (∀ (y0 : List (T0).T) (y1 : Int) (y2 : Int) (y3 : T1.T), E_u10 a_ b_ (placeAt Tryz.f85 4) (st_u10_4 y0 y1 y2 y3) (f_u10_4 k j y0 y1 y2 y3)) ∧ (∀ (y0 : Int) (y1 : Int) (y2 : List (T0).T) (y3 : Int) (y4 : Int) (y5 : List (T0).T) (y6 : Int) (y7 : Int) (y8 : T1.T), E_u10 a_ b_ (placeAt Tryz.f85 8) (st_u10_8 y0 y1 y2 y3 y4 y5 y6 y7 y8) (f_u10_8 k j y0 y1 y2 y3 y4 y5 y6 y7 y8))
  | 0 => ⟨fun _ _ _ _ _ h => (nomatch h), fun _ _ _ _ _ _ _ _ _ _ h => (nomatch h)⟩
  | j + 1 => by
    have ih := @ev_u10 k a_ b_ j
    refine ⟨?_, ?_⟩
    · intro y0 y1 y2 y3 r h
      rw [f_u10_4] at h
      exact go (mkK [ke_u7 k]) [] cs_u10 [.autoB [4] true []] (gT h (fun c h => gN2 h fun h => gN1 h (fun q => cc_u7 q) fun h => gC h 8 (ih.2 _ _ _ _ _ _ _ _ _ _)) fun c h => gL h) (by kernel_rfl)
    · intro y0 y1 y2 y3 y4 y5 y6 y7 y8 r h
      rw [f_u10_8] at h
      exact go (mkK [ke_u7 k]) [] cs_u10 [.autoB [4] true []] (gT h (fun c h => gN2 h fun h => gN1 h (fun q => cc_u7 q) fun h => gT h (fun c h => gL h) fun c h => gC h 8 (ih.2 _ _ _ _ _ _ _ _ _ _)) fun c h => gC h 4 (ih.1 _ _ _ _ _)) (by kernel_rfl)
theorem of_u10 (k : Nat) (a_ : T1.T) (b_ : T1.T) (r : R_u10) (h : f_u10 k a_ b_ = some r) : C_u10 a_ b_ r := by
  refine CC.of (fn := Tryz.f85) (by kernel_rfl) (by kernel_rfl) (by kernel_rfl) (by kernel_rfl) ?_
  unfold f_u10 at h
  exact go (mkK [ke_u7 k]) [] cs_u10 [.autoB [4] true []] (gT h (fun c h => gL h) fun c h => gC h 4 ((ev_u10 k a_ b_ k).1 _ _ _ _ _)) (by kernel_rfl)
theorem cc_u10 {k : Nat} {a_ : T1.T} {b_ : T1.T} (h : (f_u10 k a_ b_).isSome = true) : C_u10 a_ b_ (v_u10 k a_ b_) := ccG (Φ := C_u10 a_ b_) h (of_u10 k a_ b_)
abbrev R_u76 : Type := Int × Int
def res_u76 (r : R_u76) : AV := .tup [.r (.v (.int .i64 r.1)), .r (.v (.int .i64 r.2))]
def bo_u76 (r_ : T0.T) (r : R_u76) : List (Nat × Blk) := []
def args_u76 (r_ : T0.T) : List AV := [.agg (rvs (enc T0 r_))]
def bin_u76 (r_ : T0.T) : List Blk := []
abbrev C_u76 (r_ : T0.T) (r : R_u76) : Prop := CC Tryz.prog 112 (args_u76 r_) (bin_u76 r_) (res_u76 r) (bo_u76 r_ r)
def f_u76 (k : Nat) (r_ : T0.T) : Option R_u76 :=
  bif r_.2.2 then
  some ((IntKind.i64.wrap (IntKind.i64.wrap (r_.1 - r_.2.1) + 1), r_.1))
  else
  some ((r_.1, IntKind.i64.wrap (IntKind.i64.wrap (r_.1 + r_.2.1) - 1)))
def v_u76 (k : Nat) (r_ : T0.T) : R_u76 := (f_u76 k r_).getD (0, 0)
def ke_u76 (k : Nat) : Ke := (112, fun xs => match xs with
  | [_] => some [false]
  | _ => none, fun xs bs => match xs, bs with
  | [.agg qr_], [] => (decS [] T0 qr_).bind fun r_ => some (.one (res_u76 (v_u76 k r_), bo_u76 r_ (v_u76 k r_)))
  | _, _ => none)
theorem of_u76 (k : Nat) (r_ : T0.T) (r : R_u76) (h : f_u76 k r_ = some r) : C_u76 r_ r := by
  refine CC.of (fn := Tryz.f112) (by kernel_rfl) (by kernel_rfl) (by kernel_rfl) (by kernel_rfl) ?_
  unfold f_u76 at h
  exact go (mkK []) [] [] [.autoB [2, 3] true []] (gT h (fun c h => gL h) fun c h => gL h) (by kernel_rfl)
theorem cc_u76 {k : Nat} {r_ : T0.T} (h : (f_u76 k r_).isSome = true) : C_u76 r_ (v_u76 k r_) := ccG (Φ := C_u76 r_) h (of_u76 k r_)
abbrev R_u77 : Type := Bool
def res_u77 (r : R_u77) : AV := .r (.v (.bool r))
def bo_u77 (a_ : List (T0).T) (b_ : List (T0).T) (r : R_u77) : List (Nat × Blk) := []
def args_u77 (a_ : List (T0).T) (b_ : List (T0).T) : List AV := [.r (.ro T0 a_), .r (.ro T0 b_)]
def bin_u77 (a_ : List (T0).T) (b_ : List (T0).T) : List Blk := []
abbrev C_u77 (a_ : List (T0).T) (b_ : List (T0).T) (r : R_u77) : Prop := CC Tryz.prog 97 (args_u77 a_ b_) (bin_u77 a_ b_) (res_u77 r) (bo_u77 a_ b_ r)
def st_u77_2 (y0 : List (T0).T) (y1 : List (T0).T) (y2 : Int) : St := ⟨mkS 47 [(0, .r (.ro T0 y0)), (1, .r (.ro T0 y1)), (5, .r (.v (.int .i64 y2)))], []⟩
def st_u77_5 (y0 : List (T0).T) (y1 : List (T0).T) (y2 : Int) (y3 : Int) : St := ⟨mkS 47 [(0, .r (.ro T0 y0)), (1, .r (.ro T0 y1)), (5, .r (.v (.int .i64 y2))), (6, .r (.v (.int .i64 y3)))], []⟩
mutual
def f_u77_2 (k : Nat) : Nat → List (T0).T → List (T0).T → Int → Option R_u77
  | 0, _, _, _ => none
  | j + 1, y0, y1, y2 =>
  bif (decide (y2 < (↑y0.length : Int))) then
  f_u77_5 k j y0 y1 y2 0
  else
  some false
def f_u77_5 (k : Nat) : Nat → List (T0).T → List (T0).T → Int → Int → Option R_u77
  | 0, _, _, _, _ => none
  | j + 1, y0, y1, y2, y3 =>
  bif (decide (y3 < (↑y1.length : Int))) then
  if (0 ≤ y2) ∧ (y2 < (↑y0.length : Int)) ∧ ((f_u76 k (y0.getD y2.toNat T0.dflt)).isSome = true) then
  if (0 ≤ y3) ∧ (y3 < (↑y1.length : Int)) ∧ ((f_u76 k (y1.getD y3.toNat T0.dflt)).isSome = true) then
  bif (decide ((v_u76 k (y0.getD y2.toNat T0.dflt)).1 ≤ (v_u76 k (y1.getD y3.toNat T0.dflt)).2) && decide ((v_u76 k (y1.getD y3.toNat T0.dflt)).1 ≤ (v_u76 k (y0.getD y2.toNat T0.dflt)).2)) then
  some true
  else
  f_u77_5 k j y0 y1 y2 ((IntKind.i64.wrap (y3 + 1)))
  else none
  else none
  else
  f_u77_2 k j y0 y1 ((IntKind.i64.wrap (y2 + 1)))
end
def f_u77 (k : Nat) (a_ : List (T0).T) (b_ : List (T0).T) : Option R_u77 :=
  f_u77_2 k k a_ b_ 0
def v_u77 (k : Nat) (a_ : List (T0).T) (b_ : List (T0).T) : R_u77 := (f_u77 k a_ b_).getD false
def ke_u77 (k : Nat) : Ke := (97, fun xs => match xs with
  | [_, _] => some [false, false]
  | _ => none, fun xs bs => match xs, bs with
  | [.r (.ro ta__ qa_), .r (.ro tb__ qb_)], [] => (castL ta__ T0 qa_).bind fun a_ => (castL tb__ T0 qb_).bind fun b_ => some (.one (res_u77 (v_u77 k a_ b_), bo_u77 a_ b_ (v_u77 k a_ b_)))
  | _, _ => none)
def cs_u77 : List (Nat × List Cmd) := [(2, [.autoB [0, 1, 5] false []]), (5, [.autoB [0, 1, 5, 6] false []])]
abbrev E_u77 (a_ : List (T0).T) (b_ : List (T0).T) (todo : List Item) (st : St) (o : Option R_u77) : Prop := ∀ r, o = some r → Ev Tryz.prog Tryz.f97 0 todo st (res_u77 r) (bo_u77 a_ b_ r)
theorem ev_u77 (k : Nat) (a_ : List (T0).T) (b_ : List (T0).T) : ∀ j, (∀ (y0 : List (T0).T) (y1 : List (T0).T) (y2 : Int), E_u77 a_ b_ (placeAt Tryz.f97 2) (st_u77_2 y0 y1 y2) (f_u77_2 k j y0 y1 y2)) ∧ (∀ (y0 : List (T0).T) (y1 : List (T0).T) (y2 : Int) (y3 : Int), E_u77 a_ b_ (placeAt Tryz.f97 5) (st_u77_5 y0 y1 y2 y3) (f_u77_5 k j y0 y1 y2 y3))
  | 0 => ⟨fun _ _ _ _ h => (nomatch h), fun _ _ _ _ _ h => (nomatch h)⟩
  | j + 1 => by
    have ih := @ev_u77 k a_ b_ j
    refine ⟨?_, ?_⟩
    · intro y0 y1 y2 r h
      rw [f_u77_2] at h
      exact go (mkK [ke_u76 k]) [] cs_u77 [.autoB [4] true []] (gT h (fun c h => gC h 5 (ih.2 _ _ _ _ _)) fun c h => gL h) (by kernel_rfl)
    · intro y0 y1 y2 y3 r h
      rw [f_u77_5] at h
      exact go (mkK [ke_u76 k]) [] cs_u77 [.autoB [4] true []] (gT h (fun c h => gN h (fun q => conjC q.1 (conjC q.2.1 (conjC (cc_u76 q.2.2) conj0))) fun h => gN h (fun q => conjC q.1 (conjC q.2.1 (conjC (cc_u76 q.2.2) conj0))) fun h => gT h (fun c h => gL h) fun c h => gC h 5 (ih.2 _ _ _ _ _)) fun c h => gC h 2 (ih.1 _ _ _ _)) (by kernel_rfl)
theorem of_u77 (k : Nat) (a_ : List (T0).T) (b_ : List (T0).T) (r : R_u77) (h : f_u77 k a_ b_ = some r) : C_u77 a_ b_ r := by
  refine CC.of (fn := Tryz.f97) (by kernel_rfl) (by kernel_rfl) (by kernel_rfl) (by kernel_rfl) ?_
  unfold f_u77 at h
  exact go (mkK [ke_u76 k]) [] cs_u77 [.autoB [4] true []] (gC h 2 ((ev_u77 k a_ b_ k).1 _ _ _ _)) (by kernel_rfl)
theorem cc_u77 {k : Nat} {a_ : List (T0).T} {b_ : List (T0).T} (h : (f_u77 k a_ b_).isSome = true) : C_u77 a_ b_ (v_u77 k a_ b_) := ccG (Φ := C_u77 a_ b_) h (of_u77 k a_ b_)
abbrev R_u73 : Type := Int
def res_u73 (r : R_u73) : AV := .r (.v (.int .i64 r))
def bo_u73 (l_ : List (T2).T) (n_ : Int) (id_ : Int) (r : R_u73) : List (Nat × Blk) := []
def args_u73 (l_ : List (T2).T) (n_ : Int) (id_ : Int) : List AV := [.r (.ro T2 l_), .r (.v (.int .i64 n_)), .r (.v (.int .i64 id_))]
def bin_u73 (l_ : List (T2).T) (n_ : Int) (id_ : Int) : List Blk := []
abbrev C_u73 (l_ : List (T2).T) (n_ : Int) (id_ : Int) (r : R_u73) : Prop := CC Tryz.prog 54 (args_u73 l_ n_ id_) (bin_u73 l_ n_ id_) (res_u73 r) (bo_u73 l_ n_ id_ r)
def st_u73_2 (y0 : List (T2).T) (y1 : Int) (y2 : Int) (y3 : Int) : St := ⟨mkS 21 [(0, .r (.ro T2 y0)), (1, .r (.v (.int .i64 y1))), (2, .r (.v (.int .i64 y2))), (7, .r (.v (.int .i64 y3)))], []⟩
def f_u73_2 (k : Nat) : Nat → List (T2).T → Int → Int → Int → Option R_u73
  | 0, _, _, _, _ => none
  | j + 1, y0, y1, y2, y3 =>
  bif (decide (y3 < y1)) then
  if (0 ≤ y3) ∧ (y3 < (↑y0.length : Int)) then
  bif ((y0.getD y3.toNat T2.dflt).1 == y2) then
  some y3
  else
  f_u73_2 k j y0 y1 y2 ((IntKind.i64.wrap (y3 + 1)))
  else none
  else
  some (-1)
def f_u73 (k : Nat) (l_ : List (T2).T) (n_ : Int) (id_ : Int) : Option R_u73 :=
  f_u73_2 k k l_ n_ id_ 0
def v_u73 (k : Nat) (l_ : List (T2).T) (n_ : Int) (id_ : Int) : R_u73 := (f_u73 k l_ n_ id_).getD 0
def ke_u73 (k : Nat) : Ke := (54, fun xs => match xs with
  | [_, _, _] => some [false, false, false]
  | _ => none, fun xs bs => match xs, bs with
  | [.r (.ro tl__ ql_), .r (.v (.int .i64 n_)), .r (.v (.int .i64 id_))], [] => (castL tl__ T2 ql_).bind fun l_ => some (.one (res_u73 (v_u73 k l_ n_ id_), bo_u73 l_ n_ id_ (v_u73 k l_ n_ id_)))
  | _, _ => none)
def cs_u73 : List (Nat × List Cmd) := [(2, [.autoB [0, 1, 2, 7] false []])]
abbrev E_u73 (l_ : List (T2).T) (n_ : Int) (id_ : Int) (todo : List Item) (st : St) (o : Option R_u73) : Prop := ∀ r, o = some r → Ev Tryz.prog Tryz.f54 0 todo st (res_u73 r) (bo_u73 l_ n_ id_ r)
theorem ev_u73 (k : Nat) (l_ : List (T2).T) (n_ : Int) (id_ : Int) : ∀ j, (∀ (y0 : List (T2).T) (y1 : Int) (y2 : Int) (y3 : Int), E_u73 l_ n_ id_ (placeAt Tryz.f54 2) (st_u73_2 y0 y1 y2 y3) (f_u73_2 k j y0 y1 y2 y3))
  | 0 => fun _ _ _ _ _ h => (nomatch h)
  | j + 1 => by
    have ih := @ev_u73 k l_ n_ id_ j
    · intro y0 y1 y2 y3 r h
      rw [f_u73_2] at h
      exact go (mkK []) [] cs_u73 [.autoB [6] true []] (gT h (fun c h => gN2 h fun h => gT h (fun c h => gL h) fun c h => gC h 2 (ih _ _ _ _ _)) fun c h => gL h) (by kernel_rfl)
theorem of_u73 (k : Nat) (l_ : List (T2).T) (n_ : Int) (id_ : Int) (r : R_u73) (h : f_u73 k l_ n_ id_ = some r) : C_u73 l_ n_ id_ r := by
  refine CC.of (fn := Tryz.f54) (by kernel_rfl) (by kernel_rfl) (by kernel_rfl) (by kernel_rfl) ?_
  unfold f_u73 at h
  exact go (mkK []) [] cs_u73 [.autoB [6] true []] (gC h 2 ((ev_u73 k l_ n_ id_ k) _ _ _ _ _)) (by kernel_rfl)
theorem cc_u73 {k : Nat} {l_ : List (T2).T} {n_ : Int} {id_ : Int} (h : (f_u73 k l_ n_ id_).isSome = true) : C_u73 l_ n_ id_ (v_u73 k l_ n_ id_) := ccG (Φ := C_u73 l_ n_ id_) h (of_u73 k l_ n_ id_)
abbrev R_u74 : Type := Int
def res_u74 (r : R_u74) : AV := .r (.v (.int .i64 r))
def bo_u74 (m_ : List (T0).T) (r : R_u74) : List (Nat × Blk) := []
def args_u74 (m_ : List (T0).T) : List AV := [.r (.ro T0 m_)]
def bin_u74 (m_ : List (T0).T) : List Blk := []
abbrev C_u74 (m_ : List (T0).T) (r : R_u74) : Prop := CC Tryz.prog 29 (args_u74 m_) (bin_u74 m_) (res_u74 r) (bo_u74 m_ r)
def st_u74_3 (y0 : List (T0).T) (y1 : Int) (y2 : Int) : St := ⟨mkS 19 [(0, .r (.ro T0 y0)), (3, .r (.v (.int .i64 y1))), (4, .r (.v (.int .i64 y2)))], []⟩
def f_u74_3 (k : Nat) : Nat → List (T0).T → Int → Int → Option R_u74
  | 0, _, _, _ => none
  | j + 1, y0, y1, y2 =>
  bif (decide (y2 < (↑y0.length : Int))) then
  if (0 ≤ y2) ∧ (y2 < (↑y0.length : Int)) then
  f_u74_3 k j y0 ((IntKind.i64.wrap (y1 + (y0.getD y2.toNat T0.dflt).2.1))) ((IntKind.i64.wrap (y2 + 1)))
  else none
  else
  some y1
def f_u74 (k : Nat) (m_ : List (T0).T) : Option R_u74 :=
  f_u74_3 k k m_ 0 0
def v_u74 (k : Nat) (m_ : List (T0).T) : R_u74 := (f_u74 k m_).getD 0
def ke_u74 (k : Nat) : Ke := (29, fun xs => match xs with
  | [_] => some [false]
  | _ => none, fun xs bs => match xs, bs with
  | [.r (.ro tm__ qm_)], [] => (castL tm__ T0 qm_).bind fun m_ => some (.one (res_u74 (v_u74 k m_), bo_u74 m_ (v_u74 k m_)))
  | _, _ => none)
def cs_u74 : List (Nat × List Cmd) := [(3, [.autoB [0, 3, 4] false []])]
abbrev E_u74 (m_ : List (T0).T) (todo : List Item) (st : St) (o : Option R_u74) : Prop := ∀ r, o = some r → Ev Tryz.prog Tryz.f29 0 todo st (res_u74 r) (bo_u74 m_ r)
theorem ev_u74 (k : Nat) (m_ : List (T0).T) : ∀ j, (∀ (y0 : List (T0).T) (y1 : Int) (y2 : Int), E_u74 m_ (placeAt Tryz.f29 3) (st_u74_3 y0 y1 y2) (f_u74_3 k j y0 y1 y2))
  | 0 => fun _ _ _ _ h => (nomatch h)
  | j + 1 => by
    have ih := @ev_u74 k m_ j
    · intro y0 y1 y2 r h
      rw [f_u74_3] at h
      exact go (mkK []) [] cs_u74 [.autoB [2] true []] (gT h (fun c h => gN2 h fun h => gC h 3 (ih _ _ _ _)) fun c h => gL h) (by kernel_rfl)
theorem of_u74 (k : Nat) (m_ : List (T0).T) (r : R_u74) (h : f_u74 k m_ = some r) : C_u74 m_ r := by
  refine CC.of (fn := Tryz.f29) (by kernel_rfl) (by kernel_rfl) (by kernel_rfl) (by kernel_rfl) ?_
  unfold f_u74 at h
  exact go (mkK []) [] cs_u74 [.autoB [2] true []] (gC h 3 ((ev_u74 k m_ k) _ _ _ _)) (by kernel_rfl)
theorem cc_u74 {k : Nat} {m_ : List (T0).T} (h : (f_u74 k m_).isSome = true) : C_u74 m_ (v_u74 k m_) := ccG (Φ := C_u74 m_) h (of_u74 k m_)
abbrev R_u23 : Type := Int × Int
def res_u23 (r : R_u23) : AV := .tup [.r (.v (.int .i64 r.1)), .r (.v (.int .i64 r.2))]
def bo_u23 (m_ : List (T0).T) (r : R_u23) : List (Nat × Blk) := []
def args_u23 (m_ : List (T0).T) : List AV := [.r (.ro T0 m_)]
def bin_u23 (m_ : List (T0).T) : List Blk := []
abbrev C_u23 (m_ : List (T0).T) (r : R_u23) : Prop := CC Tryz.prog 21 (args_u23 m_) (bin_u23 m_) (res_u23 r) (bo_u23 m_ r)
def f_u23 (k : Nat) (m_ : List (T0).T) : Option R_u23 :=
  if ((f_u18 k m_).isSome = true) then
  bif (v_u18 k m_ != (0 : Int)) then
  some ((0, v_u18 k m_))
  else
  if ((f_u31 k m_).isSome = true) then
  some ((v_u31 k m_, 0))
  else none
  else none
def v_u23 (k : Nat) (m_ : List (T0).T) : R_u23 := (f_u23 k m_).getD (0, 0)
def ke_u23 (k : Nat) : Ke := (21, fun xs => match xs with
  | [_] => some [false]
  | _ => none, fun xs bs => match xs, bs with
  | [.r (.ro tm__ qm_)], [] => (castL tm__ T0 qm_).bind fun m_ => some (.one (res_u23 (v_u23 k m_), bo_u23 m_ (v_u23 k m_)))
  | _, _ => none)
theorem of_u23 (k : Nat) (m_ : List (T0).T) (r : R_u23) (h : f_u23 k m_ = some r) : C_u23 m_ r := by
  refine CC.of (fn := Tryz.f21) (by kernel_rfl) (by kernel_rfl) (by kernel_rfl) (by kernel_rfl) ?_
  unfold f_u23 at h
  exact go (mkK [ke_u18 k, ke_u31 k]) [] [] [.autoB [2, 3] true []] (gN1 h (fun q => cc_u18 q) fun h => gT h (fun c h => gL h) fun c h => gN1 h (fun q => cc_u31 q) fun h => gL h) (by kernel_rfl)
theorem cc_u23 {k : Nat} {m_ : List (T0).T} (h : (f_u23 k m_).isSome = true) : C_u23 m_ (v_u23 k m_) := ccG (Φ := C_u23 m_) h (of_u23 k m_)

end
theorem getD_mem' {α : Type} (l : List α) (i : Nat) (d : α) (h : i < l.length) : l.getD i d ∈ l := by simp [h]
theorem getD_app {α : Type} (p t : List α) (i : Nat) (d : α) (h : i < p.length) : (p ++ t).getD i d = p.getD i d := by simp [List.getElem?_append_left h]
theorem getD_any {α : Type} (p : List α) (i : Nat) (d e : α) (h : i < p.length) : p.getD i d = p.getD i e := by simp [h]

/-! ### the ends of runs, and whether cuts meet -/
theorem fam_bounds_s (k : Nat) (r : Rn) (h : good r) : f_u7 k r = some (lo r, Go.AM.hi r) := by
  obtain ⟨h1, h2, h3, h4, h5, h6⟩ := h
  unfold f_u7 lo Go.AM.hi
  cases hb : r.2.2
  · have := h6 hb
    rw [cond_false, wrap_id (i := r.1 + r.2.1) (by omega) (by omega), wrap_id (by omega) (by omega)]; rfl
  · have := h5 hb
    rw [cond_true, wrap_id (i := r.1 - r.2.1) (by omega) (by omega), wrap_id (by omega) (by omega)]; rfl
theorem fam_bounds_v (k : Nat) (r : Rn) (h : good r) : v_u7 k r = (lo r, Go.AM.hi r) := by
  unfold v_u7; rw [fam_bounds_s k r h]; rfl
theorem ref42_ends_s (k : Nat) (r : Rn) (h : good r) : f_u76 k r = some (lo r, Go.AM.hi r) := by
  obtain ⟨h1, h2, h3, h4, h5, h6⟩ := h
  unfold f_u76 lo Go.AM.hi
  cases hb : r.2.2
  · have := h6 hb
    rw [cond_false, wrap_id (i := r.1 + r.2.1) (by omega) (by omega), wrap_id (by omega) (by omega)]; rfl
  · have := h5 hb
    rw [cond_true, wrap_id (i := r.1 - r.2.1) (by omega) (by omega), wrap_id (by omega) (by omega)]; rfl
theorem ref42_ends_v (k : Nat) (r : Rn) (h : good r) : v_u76 k r = (lo r, Go.AM.hi r) := by
  unfold v_u76; rw [ref42_ends_s k r h]; rfl

def touch (x y : Rn) : Bool := decide (lo x ≤ Go.AM.hi y) && decide (lo y ≤ Go.AM.hi x)
theorem meetS_eq (a b : List Rn) : meetS a b = a.any fun x => b.any fun y => touch x y := rfl

theorem fam_overlap_8 (k : Nat) (x : Rn) (a : List Rn) (la i : Int) (c : Ch) (m : List Rn) (hm : goods m) (hl : m.length ≤ 256) : ∀ (d q n : Nat), q + d = m.length →
    f_u10_8 k (n + d + 1) (lo x) (Go.AM.hi x) a la i m (m.length : Int) (q : Int) c = if (m.drop q).any (touch x) = true then some true else f_u10_4 k n a la (IntKind.i64.wrap (i + 1)) c := by
  intro d
  induction d with
  | zero =>
    intro q n hq
    rw [f_u10_8, decide_eq_false (by omega : ¬ (q : Int) < (m.length : Int)), cond_false, List.drop_of_length_le (by omega), List.any_nil, if_neg (by decide)]
  | succ d ih =>
    intro q n hq
    have hg : good (m.getD q T0.dflt) := hm.mem _ (getD_mem' _ _ _ (by omega))
    rw [show n + (d + 1) + 1 = (n + d + 1) + 1 from rfl, f_u10_8, decide_eq_true (by omega : (q : Int) < (m.length : Int)), cond_true, if_pos ⟨by omega, by omega⟩, Int.toNat_natCast, fam_bounds_s k _ hg, fam_bounds_v k _ hg, Option.isSome_some, if_pos rfl, drop_cons' m q T0.dflt (by omega), List.any_cons, wrapS q (by omega), ih (q + 1) n (by omega)]
    show (bif touch x (m.getD q T0.dflt) then _ else _) = _
    cases touch x (m.getD q T0.dflt)
    · rw [cond_false, Bool.false_or]
    · rw [cond_true, Bool.true_or, if_pos rfl]
set_option maxRecDepth 20000 in
theorem fam_overlap_4 (k : Nat) (a : List Rn) (ha : goods a) (hl : a.length ≤ 256) (c : Ch) (hc : goods c.2.2.2) (hcl : c.2.2.2.length ≤ 256) : ∀ (d i j : Nat), i + d = a.length → d * 258 < j →
    f_u10_4 k j a (a.length : Int) (i : Int) c = some (meetS (a.drop i) c.2.2.2) := by
  intro d
  induction d with
  | zero =>
    intro i j hi hj
    obtain ⟨j, rfl⟩ : ∃ q, j = q + 1 := ⟨j - 1, by omega⟩
    rw [f_u10_4, decide_eq_false (by omega : ¬ (i : Int) < (a.length : Int)), cond_false, List.drop_of_length_le (by omega)]
    rfl
  | succ d ih =>
    intro i j hi hj
    obtain ⟨j, rfl⟩ : ∃ q, j = (q + c.2.2.2.length + 1) + 1 := ⟨j - c.2.2.2.length - 2, by omega⟩
    have hg : good (a.getD i T0.dflt) := ha.mem _ (getD_mem' _ _ _ (by omega))
    have h8 := fam_overlap_8 k (a.getD i T0.dflt) a (a.length : Int) (i : Int) c c.2.2.2 hc hcl c.2.2.2.length 0 j (by omega)
    rw [f_u10_4, decide_eq_true (by omega : (i : Int) < (a.length : Int)), cond_true, if_pos ⟨by omega, by omega⟩, Int.toNat_natCast, fam_bounds_s k _ hg, fam_bounds_v k _ hg, Option.isSome_some, if_pos rfl, drop_cons' a i T0.dflt (by omega), meetS_eq, List.any_cons]
    refine (h8.trans ?_)
    rw [List.drop_zero, wrapS i (by omega), ih (i + 1) j (by omega) (by omega), meetS_eq]
    by_cases h : (c.2.2.2.any (touch (a.getD i T0.dflt))) = true
    · rw [if_pos h, show (c.2.2.2.any fun y => touch (a.getD i T0.dflt) y) = true from h, Bool.true_or]
    · rw [if_neg h, show (c.2.2.2.any fun y => touch (a.getD i T0.dflt) y) = false from by simpa using h, Bool.false_or]
/-- a cut whose numbers do not overflow -/
structure Small (c : Ch) : Prop where
  l0 : 0 ≤ c.1
  w0 : 1 ≤ c.2.1
  r0 : c.1 + c.2.1 ≤ 12000
  chk : Chk c.2.2.2
theorem fam_overlap_s (k : Nat) (hk : 70000 ≤ k) (a b : Ch) (ha : Small a) (hb : Small b) : f_u10 k a b = some (ovlS a b) := by
  obtain ⟨a1, a2, a3, a4⟩ := ha
  obtain ⟨b1, b2, b3, b4⟩ := hb
  unfold f_u10 ovlS
  rw [wrap_id (i := a.1 + a.2.1) (by omega) (by omega), wrap_id (i := b.1 + b.2.1) (by omega) (by omega)]
  by_cases h1 : a.1 + a.2.1 ≤ b.1
  · rw [decide_eq_true h1, Bool.true_or, cond_true, decide_eq_false (by omega : ¬ b.1 < a.1 + a.2.1), Bool.and_false, Bool.false_and]
  · by_cases h2 : b.1 + b.2.1 ≤ a.1
    · rw [decide_eq_true h2, Bool.or_true, cond_true, decide_eq_false (by omega : ¬ a.1 < b.1 + b.2.1), Bool.false_and, Bool.false_and]
    · rw [decide_eq_false h1, decide_eq_false h2, Bool.or_false, cond_false, decide_eq_true (by omega : b.1 < a.1 + a.2.1), decide_eq_true (by omega : a.1 < b.1 + b.2.1), Bool.and_true, Bool.true_and]
      have h1 := a4.len
      exact fam_overlap_4 k a.2.2.2 a4.goods h1 b b4.goods b4.len a.2.2.2.length 0 k (by omega) (by omega)
theorem fam_overlap_v (k : Nat) (hk : 70000 ≤ k) (a b : Ch) (ha : Small a) (hb : Small b) : v_u10 k a b = ovlS a b := by
  unfold v_u10; rw [fam_overlap_s k hk a b ha hb]; rfl

theorem ref42_meet_5 (k : Nat) (a m : List Rn) (ha : goods a) (i : Nat) (hi : i < a.length) (hm : goods m) (hl : m.length ≤ 256) : ∀ (d q n : Nat), q + d = m.length →
    f_u77_5 k (n + d + 1) a m (i : Int) (q : Int) = if (m.drop q).any (touch (a.getD i T0.dflt)) = true then some true else f_u77_2 k n a m (IntKind.i64.wrap ((i : Int) + 1)) := by
  intro d
  have hx : good (a.getD i T0.dflt) := ha.mem _ (getD_mem' _ _ _ (by omega))
  induction d with
  | zero =>
    intro q n hq
    rw [f_u77_5, decide_eq_false (by omega : ¬ (q : Int) < (m.length : Int)), cond_false, List.drop_of_length_le (by omega), List.any_nil, if_neg (by decide)]
  | succ d ih =>
    intro q n hq
    have hg : good (m.getD q T0.dflt) := hm.mem _ (getD_mem' _ _ _ (by omega))
    rw [show n + (d + 1) + 1 = (n + d + 1) + 1 from rfl, f_u77_5, decide_eq_true (by omega : (q : Int) < (m.length : Int)), cond_true, Int.toNat_natCast, Int.toNat_natCast, ref42_ends_s k _ hx, ref42_ends_v k _ hx, ref42_ends_s k _ hg, ref42_ends_v k _ hg, if_pos ⟨by omega, by omega, rfl⟩, if_pos ⟨by omega, by omega, rfl⟩, drop_cons' m q T0.dflt (by omega), List.any_cons, wrapS q (by omega), ih (q + 1) n (by omega)]
    show (bif touch (a.getD i T0.dflt) (m.getD q T0.dflt) then _ else _) = _
    cases touch (a.getD i T0.dflt) (m.getD q T0.dflt)
    · rw [cond_false, Bool.false_or]
    · rw [cond_true, Bool.true_or, if_pos rfl]
set_option maxRecDepth 20000 in
theorem ref42_meet_2 (k : Nat) (a m : List Rn) (ha : goods a) (hl : a.length ≤ 256) (hm : goods m) (hml : m.length ≤ 256) : ∀ (d i j : Nat), i + d = a.length → d * 258 < j →
    f_u77_2 k j a m (i : Int) = some (meetS (a.drop i) m) := by
  intro d
  induction d with
  | zero =>
    intro i j hi hj
    obtain ⟨j, rfl⟩ : ∃ q, j = q + 1 := ⟨j - 1, by omega⟩
    rw [f_u77_2, decide_eq_false (by omega : ¬ (i : Int) < (a.length : Int)), cond_false, List.drop_of_length_le (by omega)]
    rfl
  | succ d ih =>
    intro i j hi hj
    obtain ⟨j, rfl⟩ : ∃ q, j = (q + m.length + 1) + 1 := ⟨j - m.length - 2, by omega⟩
    have h8 := ref42_meet_5 k a m ha i (by omega) hm hml m.length 0 j (by omega)
    rw [f_u77_2, decide_eq_true (by omega : (i : Int) < (a.length : Int)), cond_true, drop_cons' a i T0.dflt (by omega), meetS_eq, List.any_cons]
    refine (h8.trans ?_)
    rw [List.drop_zero, wrapS i (by omega), ih (i + 1) j (by omega) (by omega), meetS_eq]
    by_cases h : (m.any (touch (a.getD i T0.dflt))) = true
    · rw [if_pos h, show (m.any fun y => touch (a.getD i T0.dflt) y) = true from h, Bool.true_or]
    · rw [if_neg h, show (m.any fun y => touch (a.getD i T0.dflt) y) = false from by simpa using h, Bool.false_or]
theorem ref42_meet_s (k : Nat) (hk : 70000 ≤ k) (a b : List Rn) (ha : Chk a) (hb : Chk b) : f_u77 k a b = some (meetS a b) := by
  unfold f_u77
  have h1 := ha.len
  exact ref42_meet_2 k a b ha.goods h1 hb.goods hb.len a.length 0 k (by omega) (by omega)
theorem ref42_meet_v (k : Nat) (hk : 70000 ≤ k) (a b : List Rn) (ha : Chk a) (hb : Chk b) : v_u77 k a b = meetS a b := by
  unfold v_u77; rw [ref42_meet_s k hk a b ha hb]; rfl

/-! ### lengths -/
theorem iso_Length_s (k : Nat) (hk : 2100 ≤ k) (m : List Rn) (h : Chk m) : f_u23 k m = some (lenS m, 0) := by
  have h1 := h.len
  unfold f_u23
  rw [iso_Check_s k (by omega), iso_Check_v k (by omega), Option.isSome_some, if_pos rfl, chk_zero.2 h]
  show (if _ then _ else _) = _
  rw [iso_length_s k m h.goods (by omega) (by omega), iso_length_v k m h.goods (by omega) (by omega)]
  rfl
theorem iso_Length_v (k : Nat) (hk : 2100 ≤ k) (m : List Rn) (h : Chk m) : v_u23 k m = (lenS m, 0) := by
  unfold v_u23; rw [iso_Length_s k hk m h]; rfl

theorem ref42_Long_l (k : Nat) (m : List Rn) (hg : goods m) (hm : m.length ≤ 1000) : ∀ (j i : Nat) (n : Int), i ≤ m.length → m.length - i < j → 0 ≤ n → n ≤ (i : Int) * 17179869184 →
    f_u74_3 k j m n (i : Int) = some (n + lenS (m.drop i)) := by
  intro j
  induction j with
  | zero => intros; omega
  | succ j ih =>
    intro i n hi hj h0 h1
    rw [f_u74_3]
    by_cases h : i < m.length
    · have hgr : good (m.getD i T0.dflt) := hg.mem _ (getD_mem' _ _ _ (by omega))
      obtain ⟨g1, g2, g3, g4, _⟩ := hgr
      rw [decide_eq_true (by omega : (i : Int) < (m.length : Int)), cond_true, if_pos ⟨by omega, by omega⟩, Int.toNat_natCast, wrapS i (by omega), wrap_id (by omega) (by omega), ih (i + 1) _ (by omega) (by omega) (by omega) (by omega), drop_cons' m i T0.dflt h, lenS, Int.add_assoc]
    · rw [decide_eq_false (by omega : ¬ (i : Int) < (m.length : Int)), cond_false, List.drop_of_length_le (by omega), lenS, Int.add_zero]
theorem ref42_Long_s (k : Nat) (hk : 2100 ≤ k) (m : List Rn) (h : Chk m) : f_u74 k m = some (lenS m) := by
  have h1 := h.len
  unfold f_u74
  refine (ref42_Long_l k m h.goods (by omega) k 0 0 (by omega) (by omega) (by omega) (by omega)).trans ?_
  rw [List.drop_zero, Int.zero_add]
theorem ref42_Long_v (k : Nat) (hk : 2100 ≤ k) (m : List Rn) (h : Chk m) : v_u74 k m = lenS m := by
  unfold v_u74; rw [ref42_Long_s k hk m h]; rfl

/-! ### numbers of rolls -/
/-- the place of a number among rolls -/
def At (p : List Ro) (id : Int) (i : Option Int) : Prop := match look p id with
  | none => i = none
  | some r => ∃ q : Nat, i = some (q : Int) ∧ q < p.length ∧ ∀ d, p.getD q d = r
theorem At.none {p : List Ro} {id : Int} {i : Option Int} (h : At p id i) (e : look p id = .none) : i = .none := by
  unfold At at h; rw [e] at h; exact h
theorem At.some {p : List Ro} {id : Int} {i : Option Int} {r : Ro} (h : At p id i) (e : look p id = .some r) : ∃ q : Nat, i = .some (q : Int) ∧ q < p.length ∧ ∀ d, p.getD q d = r := by
  unfold At at h; rw [e] at h; exact h

theorem mget_mset (id v : Int) (x : Int) : ∀ M : List (Int × Int), mget I x (mset I id v M) = if x = id then some v else mget I x M
  | [] => by
    show (bif (x == id) then some v else none) = _
    by_cases h : x = id
    · rw [show (x == id) = true by simp [h], if_pos h]; rfl
    · rw [show (x == id) = false by simp [h], if_neg h]; rfl
  | p :: t => by
    unfold mset
    by_cases h : id = p.1
    · rw [show eqK I id p.1 = true from by show (id == p.1) = true; simp [h], cond_true]
      show (bif (x == id) then some v else mget I x t) = _
      by_cases h2 : x = id
      · simp [h2]
      · rw [if_neg h2, show (x == id) = false by simp [h2], cond_false, mget, show eqK I x p.1 = false from by show (x == p.1) = false; rw [← h]; simp [h2], cond_false]
    · rw [show eqK I id p.1 = false from by show (id == p.1) = false; simp [h], cond_false, mget, mget_mset id v x t]
      show (bif (x == p.1) then some p.2 else _) = if _ then _ else (bif (x == p.1) then some p.2 else _)
      by_cases h2 : x = id
      · rw [if_pos h2, if_pos h2, show (x == p.1) = false by rw [h2]; simp [h], cond_false]
      · rw [if_neg h2, if_neg h2]
/-- a register's map of numbers -/
def RegOk (M : List (Int × Int)) (p : List Ro) : Prop := ∀ id, At p id (mget I id M)
theorem regOk_nil : RegOk [] [] := fun id => by unfold At look; rfl
theorem regOk_old {M : List (Int × Int)} {p : List Ro} (h : RegOk M p) (r : Ro) (hr : (look p r.1).isSome = true) : RegOk M (p ++ [r]) := fun id => by
  have h1 := h id
  unfold At at *
  rw [look_append]
  cases e : look p id with
  | some q =>
    rw [e] at h1
    obtain ⟨i, h2, h3, h4⟩ := h1
    exact ⟨i, h2, by rw [List.length_append]; omega, fun d => by rw [getD_app _ _ _ _ h3]; exact h4 d⟩
  | none =>
    rw [e] at h1
    have : r.1 ≠ id := fun e2 => by rw [e2, e] at hr; cases hr
    rw [Option.none_or, show look [r] id = none by unfold look; simp [this]]
    exact h1
theorem regOk_new {M : List (Int × Int)} {p : List Ro} (h : RegOk M p) (r : Ro) (hr : look p r.1 = none) : RegOk (mset I r.1 (p.length : Int) M) (p ++ [r]) := fun id => by
  have h1 := h id
  rw [mget_mset]
  unfold At at *
  rw [look_append]
  by_cases hi : id = r.1
  · rw [if_pos hi, hi, hr, Option.none_or, show look [r] r.1 = some r by unfold look; simp]
    exact ⟨p.length, rfl, by simp, fun d => by simp⟩
  · rw [if_neg hi]
    cases e : look p id with
    | some q =>
      rw [e] at h1
      obtain ⟨i, h2, h3, h4⟩ := h1
      exact ⟨i, h2, by rw [List.length_append]; omega, fun d => by rw [getD_app _ _ _ _ h3]; exact h4 d⟩
    | none =>
      rw [e] at h1
      rw [Option.none_or, show look [r] id = none by unfold look; simp [Ne.symm hi]]
      exact h1

theorem ref42_Index_l (k : Nat) (p t : List Ro) (id : Int) (hp : p.length ≤ 100000) : ∀ (d i j : Nat), i + d = p.length → d < j → look (p.take i) id = none →
    ∃ o : Option Int, f_u73_2 k j (p ++ t) (p.length : Int) id (i : Int) = some (o.getD (-1)) ∧ At p id o := by
  intro d
  induction d with
  | zero =>
    intro i j hi hj hn
    obtain ⟨j, rfl⟩ : ∃ q, j = q + 1 := ⟨j - 1, by omega⟩
    rw [f_u73_2, decide_eq_false (by omega : ¬ (i : Int) < (p.length : Int)), cond_false]
    rw [List.take_of_length_le (by omega)] at hn
    exact ⟨none, rfl, by unfold At; rw [hn]⟩
  | succ d ih =>
    intro i j hi hj hn
    obtain ⟨j, rfl⟩ : ∃ q, j = q + 1 := ⟨j - 1, by omega⟩
    have hl : (p ++ t).length = p.length + t.length := List.length_append
    rw [f_u73_2, decide_eq_true (by omega : (i : Int) < (p.length : Int)), cond_true, if_pos ⟨by omega, by omega⟩, Int.toNat_natCast, getD_app _ _ _ _ (by omega)]
    have ht := take_snoc p i T2.dflt (by omega)
    by_cases h : (p.getD i T2.dflt).1 = id
    · rw [show ((p.getD i T2.dflt).fst == id) = true from beq_iff_eq.2 h, cond_true]
      refine ⟨some (i : Int), rfl, ?_⟩
      have e : look p id = some (p.getD i T2.dflt) := by
        have e2 : look (p.drop i) id = some (p.getD i T2.dflt) := by
          rw [drop_cons' p i T2.dflt (by omega)]
          unfold look
          rw [List.find?_cons_of_pos (by exact beq_iff_eq.2 h)]
        have e3 := look_append (p.take i) (p.drop i) id
        rw [List.take_append_drop, hn, Option.none_or, e2] at e3
        exact e3
      unfold At
      rw [e]
      exact ⟨i, rfl, by omega, fun d => getD_any _ _ _ _ (by omega)⟩
    · rw [show ((p.getD i T2.dflt).fst == id) = false from beq_false_of_ne h, cond_false, wrapS i (by omega)]
      refine ih (i + 1) j (by omega) (by omega) ?_
      rw [ht, look_append, hn, Option.none_or]
      unfold look
      simp only [List.find?_cons, List.find?_nil]
      rw [show ((p.getD i T2.dflt).1 == id) = false from beq_false_of_ne h]
theorem ref42_Index_s (k : Nat) (p t : List Ro) (id : Int) (hp : p.length ≤ 100000) (hk : p.length < k) : ∃ o : Option Int, f_u73 k (p ++ t) (p.length : Int) id = some (o.getD (-1)) ∧ v_u73 k (p ++ t) (p.length : Int) id = o.getD (-1) ∧ At p id o := by
  obtain ⟨o, h1, h2⟩ := ref42_Index_l k p t id hp p.length 0 k (by omega) (by omega) (by unfold look; rfl)
  exact ⟨o, h1, by unfold v_u73 f_u73; rw [show f_u73_2 k k (p ++ t) (p.length : Int) id 0 = _ from h1]; rfl, h2⟩
end Go.AM
namespace Go.AM
open Go Go.Proofs
noncomputable section
abbrev R_u86 : Type := Int
def res_u86 (r : R_u86) : AV := .r (.v (.int .i64 r))
def bo_u86 (s_ : T3.T) (r : R_u86) : List (Nat × Blk) := []
def args_u86 (s_ : T3.T) : List AV := [.agg (rvs (enc T3 s_))]
def bin_u86 (s_ : T3.T) : List Blk := []
abbrev C_u86 (s_ : T3.T) (r : R_u86) : Prop := CC Tryz.prog 42 (args_u86 s_) (bin_u86 s_) (res_u86 r) (bo_u86 s_ r)
def f_u86 (k : Nat) (s_ : T3.T) : Option R_u86 :=
  bif (decide (s_.1 < (0 : Int)) || decide (s_.1 ≥ s_.2.1) || decide (s_.2.1 > (17179869184 : Int))) then
  some 1
  else
  bif (decide (s_.2.2.1 < (1 : Int)) || decide (s_.2.2.1 > (3 : Int))) then
  some 17
  else
  bif (decide (s_.2.2.2.1 < (-1 : Int)) || decide (s_.2.2.2.1 ≥ (16 : Int))) then
  some 22
  else
  bif (decide (s_.2.2.2.2 < (0 : Int)) || decide (s_.2.2.2.2 > (2048 : Int))) then
  some 1
  else
  some 0
def v_u86 (k : Nat) (s_ : T3.T) : R_u86 := (f_u86 k s_).getD 0
def ke_u86 (k : Nat) : Ke := (42, fun xs => match xs with
  | [_] => some [false]
  | _ => none, fun xs bs => match xs, bs with
  | [.agg qs_], [] => (decS [] T3 qs_).bind fun s_ => some (.one (res_u86 (v_u86 k s_), bo_u86 s_ (v_u86 k s_)))
  | _, _ => none)
theorem of_u86 (k : Nat) (s_ : T3.T) (r : R_u86) (h : f_u86 k s_ = some r) : C_u86 s_ r := by
  refine CC.of (fn := Tryz.f42) (by kernel_rfl) (by kernel_rfl) (by kernel_rfl) (by kernel_rfl) ?_
  unfold f_u86 at h
  exact go (mkK []) [] [] [.autoB [2] true []] (gT h (fun c h => gL h) fun c h => gT h (fun c h => gL h) fun c h => gT h (fun c h => gL h) fun c h => gT h (fun c h => gL h) fun c h => gL h) (by kernel_rfl)
theorem cc_u86 {k : Nat} {s_ : T3.T} (h : (f_u86 k s_).isSome = true) : C_u86 s_ (v_u86 k s_) := ccG (Φ := C_u86 s_) h (of_u86 k s_)
abbrev R_u84 : Type := Int
def res_u84 (r : R_u84) : AV := .r (.v (.int .i64 r))
def bo_u84 (l_ : List (T3).T) (r : R_u84) : List (Nat × Blk) := []
def args_u84 (l_ : List (T3).T) : List AV := [.r (.ro T3 l_)]
def bin_u84 (l_ : List (T3).T) : List Blk := []
abbrev C_u84 (l_ : List (T3).T) (r : R_u84) : Prop := CC Tryz.prog 17 (args_u84 l_) (bin_u84 l_) (res_u84 r) (bo_u84 l_ r)
def st_u84_4 (y0 : List (T3).T) (y1 : List (T3).T) (y2 : Int) (y3 : Int) : St := ⟨mkS 46 [(0, .r (.ro T3 y0)), (13, .r (.ro T3 y1)), (14, .r (.v (.int .i64 y2))), (15, .r (.v (.int .i64 y3)))], []⟩
def st_u84_12 (y0 : Int) (y1 : Int) (y2 : List (T3).T) (y3 : Int) (y4 : Int) : St := ⟨mkS 46 [(6, .r (.v (.int .i64 y0))), (7, .r (.v (.int .i64 y1))), (25, .r (.ro T3 y2)), (26, .r (.v (.int .i64 y3))), (27, .r (.v (.int .i64 y4)))], []⟩
mutual
def f_u84_4 (k : Nat) : Nat → List (T3).T → List (T3).T → Int → Int → Option R_u84
  | 0, _, _, _, _ => none
  | j + 1, y0, y1, y2, y3 =>
  bif (decide (y3 < y2)) then
  if (0 ≤ y3) ∧ (y3 < (↑y1.length : Int)) then
  if ((f_u86 k (y1.getD y3.toNat T3.dflt)).isSome = true) then
  bif (v_u86 k (y1.getD y3.toNat T3.dflt) != (0 : Int)) then
  some (v_u86 k (y1.getD y3.toNat T3.dflt))
  else
  f_u84_4 k j y0 y1 y2 ((IntKind.i64.wrap (y3 + 1)))
  else none
  else none
  else
  f_u84_12 k j 0 0 y0 ((↑y0.length : Int)) 0
def f_u84_12 (k : Nat) : Nat → Int → Int → List (T3).T → Int → Int → Option R_u84
  | 0, _, _, _, _, _ => none
  | j + 1, y0, y1, y2, y3, y4 =>
  bif (decide (y4 < y3)) then
  if (0 ≤ y4) ∧ (y4 < (↑y2.length : Int)) then
  bif ((y2.getD y4.toNat T3.dflt).1 != y0 || decide ((y2.getD y4.toNat T3.dflt).2.2.2.2 < y1)) then
  some 9
  else
  f_u84_12 k j ((y2.getD y4.toNat T3.dflt).2.1) ((y2.getD y4.toNat T3.dflt).2.2.2.2) y2 y3 ((IntKind.i64.wrap (y4 + 1)))
  else none
  else
  some 0
end
def f_u84 (k : Nat) (l_ : List (T3).T) : Option R_u84 :=
  bif (decide ((↑l_.length : Int) > (512 : Int))) then
  some 8
  else
  f_u84_4 k k l_ l_ ((↑l_.length : Int)) 0
def v_u84 (k : Nat) (l_ : List (T3).T) : R_u84 := (f_u84 k l_).getD 0
def ke_u84 (k : Nat) : Ke := (17, fun xs => match xs with
  | [_] => some [false]
  | _ => none, fun xs bs => match xs, bs with
  | [.r (.ro tl__ ql_)], [] => (castL tl__ T3 ql_).bind fun l_ => some (.one (res_u84 (v_u84 k l_), bo_u84 l_ (v_u84 k l_)))
  | _, _ => none)
def cs_u84 : List (Nat × List Cmd) := [(4, [.autoB [0, 13, 14, 15] false []]), (12, [.autoB [6, 7, 25, 26, 27] false []])]
abbrev E_u84 (l_ : List (T3).T) (todo : List Item) (st : St) (o : Option R_u84) : Prop := ∀ r, o = some r → Ev Tryz.prog Tryz.f17 0 todo st (res_u84 r) (bo_u84 l_ r)
theorem ev_u84 (k : Nat) (l_ : List (T3).T) : ∀ j, (∀ (y0 : List (T3).T) (y1 : List (T3).T) (y2 : Int) (y3 : Int), E_u84 l_ (placeAt Tryz.f17 4) (st_u84_4 y0 y1 y2 y3) (f_u84_4 k j y0 y1 y2 y3)) ∧ (∀ (y0 : Int) (y1 : Int) (y2 : List (T3).T) (y3 : Int) (y4 : Int), E_u84 l_ (placeAt Tryz.f17 12) (st_u84_12 y0 y1 y2 y3 y4) (f_u84_12 k j y0 y1 y2 y3 y4))
  | 0 => ⟨fun _ _ _ _ _ h => (nomatch h), fun _ _ _ _ _ _ h => (nomatch h)⟩
  | j + 1 => by
    have ih := @ev_u84 k l_ j
    refine ⟨?_, ?_⟩
    · intro y0 y1 y2 y3 r h
      rw [f_u84_4] at h
      exact go (mkK [ke_u86 k]) [] cs_u84 [.autoB [2] true []] (gT h (fun c h => gN2 h fun h => gN1 h (fun q => cc_u86 q) fun h => gT h (fun c h => gL h) fun c h => gC h 4 (ih.1 _ _ _ _ _)) fun c h => gC h 12 (ih.2 _ _ _ _ _ _)) (by kernel_rfl)
    · intro y0 y1 y2 y3 y4 r h
      rw [f_u84_12] at h
      exact go (mkK [ke_u86 k]) [] cs_u84 [.autoB [2] true []] (gT h (fun c h => gN2 h fun h => gT h (fun c h => gL h) fun c h => gC h 12 (ih.2 _ _ _ _ _ _)) fun c h => gL h) (by kernel_rfl)
theorem of_u84 (k : Nat) (l_ : List (T3).T) (r : R_u84) (h : f_u84 k l_ = some r) : C_u84 l_ r := by
  refine CC.of (fn := Tryz.f17) (by kernel_rfl) (by kernel_rfl) (by kernel_rfl) (by kernel_rfl) ?_
  unfold f_u84 at h
  exact go (mkK [ke_u86 k]) [] cs_u84 [.autoB [2] true []] (gT h (fun c h => gL h) fun c h => gC h 4 ((ev_u84 k l_ k).1 _ _ _ _ _)) (by kernel_rfl)
theorem cc_u84 {k : Nat} {l_ : List (T3).T} (h : (f_u84 k l_).isSome = true) : C_u84 l_ (v_u84 k l_) := ccG (Φ := C_u84 l_) h (of_u84 k l_)
abbrev R_u85 : Type := List (T3).T × Int
def res_u85 (r : R_u85) : AV := .tup [.r (.ro T3 r.1), .r (.v (.int .i64 r.2))]
def bo_u85 (l_ : List (T3).T) (s_ : T15.T) (r : R_u85) : List (Nat × Blk) := []
def args_u85 (l_ : List (T3).T) (s_ : T15.T) : List AV := [.r (.ro T3 l_), .agg (rvs (enc T15 s_))]
def bin_u85 (l_ : List (T3).T) (s_ : T15.T) : List Blk := []
abbrev C_u85 (l_ : List (T3).T) (s_ : T15.T) (r : R_u85) : Prop := CC Tryz.prog 46 (args_u85 l_ s_) (bin_u85 l_ s_) (res_u85 r) (bo_u85 l_ s_ r)
def st_u85_11 (y0 : List (T3).T) (y1 : Int) (y2 : Int) (y3 : T15.T) (y4 : List (T3).T) : St := ⟨mkS 77 [(3, .ptr 1000000 0 0), (8, .own 1000001 0), (42, .r (.ro T3 y0)), (43, .r (.v (.int .i64 y1))), (44, .r (.v (.int .i64 y2)))], [(1000000, 0, .var 86 (rvs (enc T15 y3))), (1000001, 0, .row 82 T3 y4)]⟩
def f_u85_11 (k : Nat) : Nat → List (T3).T → Int → Int → T15.T → List (T3).T → Option R_u85
  | 0, _, _, _, _, _ => none
  | j + 1, y0, y1, y2, y3, y4 =>
  bif (decide (y2 < y1)) then
  if (0 ≤ y2) ∧ (y2 < (↑y0.length : Int)) then
  bif (decide (IntKind.i64.wrap ((if y3.1 > (y0.getD y2.toNat T3.dflt).1 then y3.1 else (y0.getD y2.toNat T3.dflt).1) - y3.1) < IntKind.i64.wrap ((if y3.2 < (y0.getD y2.toNat T3.dflt).2.1 then y3.2 else (y0.getD y2.toNat T3.dflt).2.1) - y3.1))) then
  if ((y4.length + [(IntKind.i64.wrap ((if y3.1 > (y0.getD y2.toNat T3.dflt).1 then y3.1 else (y0.getD y2.toNat T3.dflt).1) - y3.1), IntKind.i64.wrap ((if y3.2 < (y0.getD y2.toNat T3.dflt).2.1 then y3.2 else (y0.getD y2.toNat T3.dflt).2.1) - y3.1), (y0.getD y2.toNat T3.dflt).2.2)].length) * (40 : Nat) ≤ (140737488355328 : Nat)) then
  f_u85_11 k j y0 y1 ((IntKind.i64.wrap (y2 + 1))) y3 ((y4 ++ [(IntKind.i64.wrap ((if y3.1 > (y0.getD y2.toNat T3.dflt).1 then y3.1 else (y0.getD y2.toNat T3.dflt).1) - y3.1), IntKind.i64.wrap ((if y3.2 < (y0.getD y2.toNat T3.dflt).2.1 then y3.2 else (y0.getD y2.toNat T3.dflt).2.1) - y3.1), (y0.getD y2.toNat T3.dflt).2.2)]))
  else none
  else
  f_u85_11 k j y0 y1 ((IntKind.i64.wrap (y2 + 1))) y3 y4
  else none
  else
  some ((y4, 0))
def f_u85 (k : Nat) (l_ : List (T3).T) (s_ : T15.T) : Option R_u85 :=
  if ((f_u84 k l_).isSome = true) then
  bif (v_u84 k l_ != (0 : Int)) then
  some (([], v_u84 k l_))
  else
  bif (decide ((↑l_.length : Int) > (0 : Int))) then
  if ((0 : Int) ≤ IntKind.i64.wrap ((↑l_.length : Int) - (1 : Int))) ∧ (IntKind.i64.wrap ((↑l_.length : Int) - (1 : Int)) < (↑l_.length : Int)) then
  bif (decide (s_.1 < (0 : Int)) || decide (s_.1 > s_.2) || decide (s_.2 > (l_.getD (IntKind.i64.wrap ((↑l_.length : Int) - (1 : Int))).toNat T3.dflt).2.1)) then
  some (([], 1))
  else
  f_u85_11 k k l_ ((↑l_.length : Int)) 0 s_ ([])
  else none
  else
  bif (decide (s_.1 < (0 : Int)) || decide (s_.1 > s_.2) || decide (s_.2 > (0 : Int))) then
  some (([], 1))
  else
  f_u85_11 k k l_ ((↑l_.length : Int)) 0 s_ ([])
  else none
def v_u85 (k : Nat) (l_ : List (T3).T) (s_ : T15.T) : R_u85 := (f_u85 k l_ s_).getD ([], 0)
def ke_u85 (k : Nat) : Ke := (46, fun xs => match xs with
  | [_, _] => some [false, false]
  | _ => none, fun xs bs => match xs, bs with
  | [.r (.ro tl__ ql_), .agg qs_], [] => (castL tl__ T3 ql_).bind fun l_ => (decS [] T15 qs_).bind fun s_ => some (.one (res_u85 (v_u85 k l_ s_), bo_u85 l_ s_ (v_u85 k l_ s_)))
  | _, _ => none)
def cs_u85 : List (Nat × List Cmd) := [(11, [.row 8 82 T3, .autoB [3, 8, 42, 43, 44] false []])]
abbrev E_u85 (l_ : List (T3).T) (s_ : T15.T) (todo : List Item) (st : St) (o : Option R_u85) : Prop := ∀ r, o = some r → Ev Tryz.prog Tryz.f46 0 todo st (res_u85 r) (bo_u85 l_ s_ r)
theorem ev_u85 (k : Nat) (l_ : List (T3).T) (s_ : T15.T) : ∀ j, (∀ (y0 : List (T3).T) (y1 : Int) (y2 : Int) (y3 : T15.T) (y4 : List (T3).T), E_u85 l_ s_ (placeAt Tryz.f46 11) (st_u85_11 y0 y1 y2 y3 y4) (f_u85_11 k j y0 y1 y2 y3 y4))
  | 0 => fun _ _ _ _ _ _ h => (nomatch h)
  | j + 1 => by
    have ih := @ev_u85 k l_ s_ j
    · intro y0 y1 y2 y3 y4 r h
      rw [f_u85_11] at h
      exact go (mkK [ke_u84 k]) [] cs_u85 [.frz 4 false (RTy.list T3), .autoB [4, 5] true []] (gT h (fun c h => gN2 h fun h => gT h (fun c h => gN1 h id fun h => gC h 11 (ih _ _ _ _ _ _)) fun c h => gC h 11 (ih _ _ _ _ _ _)) fun c h => gL h) (by kernel_rfl)
theorem of_u85 (k : Nat) (l_ : List (T3).T) (s_ : T15.T) (r : R_u85) (h : f_u85 k l_ s_ = some r) : C_u85 l_ s_ r := by
  refine CC.of (fn := Tryz.f46) (by kernel_rfl) (by kernel_rfl) (by kernel_rfl) (by kernel_rfl) ?_
  unfold f_u85 at h
  exact go (mkK [ke_u84 k]) [] cs_u85 [.frz 4 false (RTy.list T3), .autoB [4, 5] true []] (gN1 h (fun q => cc_u84 q) fun h => gT h (fun c h => gL h) fun c h => gT h (fun c h => gN2 h fun h => gT h (fun c h => gL h) fun c h => gC h 11 ((ev_u85 k l_ s_ k) _ _ _ _ _ _)) fun c h => gT h (fun c h => gL h) fun c h => gC h 11 ((ev_u85 k l_ s_ k) _ _ _ _ _ _)) (by kernel_rfl)
theorem cc_u85 {k : Nat} {l_ : List (T3).T} {s_ : T15.T} (h : (f_u85 k l_ s_).isSome = true) : C_u85 l_ s_ (v_u85 k l_ s_) := ccG (Φ := C_u85 l_ s_) h (of_u85 k l_ s_)
abbrev R_u62 : Type := Int
def res_u62 (r : R_u62) : AV := .r (.v (.int .i64 r))
def bo_u62 (l_ : List (T3).T) (r : R_u62) : List (Nat × Blk) := []
def args_u62 (l_ : List (T3).T) : List AV := [.r (.ro T3 l_)]
def bin_u62 (l_ : List (T3).T) : List Blk := []
abbrev C_u62 (l_ : List (T3).T) (r : R_u62) : Prop := CC Tryz.prog 25 (args_u62 l_) (bin_u62 l_) (res_u62 r) (bo_u62 l_ r)
def st_u62_4 (y0 : List (T3).T) (y1 : Int) : St := ⟨mkS 106 [(0, .r (.ro T3 y0)), (3, .r (.v (.int .i64 y1)))], []⟩
def st_u62_16 (y0 : List (T3).T) (y1 : Int) : St := ⟨mkS 106 [(0, .r (.ro T3 y0)), (5, .r (.v (.int .i64 y1)))], []⟩
mutual
def f_u62_4 (k : Nat) : Nat → List (T3).T → Int → Option R_u62
  | 0, _, _ => none
  | j + 1, y0, y1 =>
  bif (decide (y1 < (↑y0.length : Int))) then
  if (0 ≤ y1) ∧ (y1 < (↑y0.length : Int)) then
  bif (decide ((y0.getD y1.toNat T3.dflt).1 < (0 : Int)) || decide ((y0.getD y1.toNat T3.dflt).1 ≥ (y0.getD y1.toNat T3.dflt).2.1) || decide ((y0.getD y1.toNat T3.dflt).2.1 > (17179869184 : Int))) then
  some 1
  else
  bif (decide ((y0.getD y1.toNat T3.dflt).2.2.1 < (1 : Int)) || decide ((y0.getD y1.toNat T3.dflt).2.2.1 > (3 : Int))) then
  some 17
  else
  bif (decide ((y0.getD y1.toNat T3.dflt).2.2.2.1 < (-1 : Int)) || decide ((y0.getD y1.toNat T3.dflt).2.2.2.1 ≥ (16 : Int))) then
  some 22
  else
  bif (decide ((y0.getD y1.toNat T3.dflt).2.2.2.2 < (0 : Int)) || decide ((y0.getD y1.toNat T3.dflt).2.2.2.2 > (2048 : Int))) then
  some 1
  else
  f_u62_4 k j y0 ((IntKind.i64.wrap (y1 + 1)))
  else none
  else
  f_u62_16 k j y0 0
def f_u62_16 (k : Nat) : Nat → List (T3).T → Int → Option R_u62
  | 0, _, _ => none
  | j + 1, y0, y1 =>
  bif (decide (y1 < (↑y0.length : Int))) then
  if ((y1 == (0 : Int)) = true → 0 ≤ y1) ∧ ((y1 == (0 : Int)) = true → y1 < (↑y0.length : Int)) ∧ ((y1 == (0 : Int) && (y0.getD y1.toNat T3.dflt).1 != (0 : Int)) = false → decide (y1 > (0 : Int)) = true → 0 ≤ y1) ∧ ((y1 == (0 : Int) && (y0.getD y1.toNat T3.dflt).1 != (0 : Int)) = false → decide (y1 > (0 : Int)) = true → y1 < (↑y0.length : Int)) ∧ ((y1 == (0 : Int) && (y0.getD y1.toNat T3.dflt).1 != (0 : Int)) = false → decide (y1 > (0 : Int)) = true → (0 : Int) ≤ IntKind.i64.wrap (y1 - (1 : Int))) ∧ ((y1 == (0 : Int) && (y0.getD y1.toNat T3.dflt).1 != (0 : Int)) = false → decide (y1 > (0 : Int)) = true → IntKind.i64.wrap (y1 - (1 : Int)) < (↑y0.length : Int)) ∧ ((y1 == (0 : Int) && (y0.getD y1.toNat T3.dflt).1 != (0 : Int)) = false → decide (y1 > (0 : Int)) = true → ((y0.getD y1.toNat T3.dflt).1 != (y0.getD (IntKind.i64.wrap (y1 - (1 : Int))).toNat T3.dflt).2.1) = false → 0 ≤ y1) ∧ ((y1 == (0 : Int) && (y0.getD y1.toNat T3.dflt).1 != (0 : Int)) = false → decide (y1 > (0 : Int)) = true → ((y0.getD y1.toNat T3.dflt).1 != (y0.getD (IntKind.i64.wrap (y1 - (1 : Int))).toNat T3.dflt).2.1) = false → y1 < (↑y0.length : Int)) ∧ ((y1 == (0 : Int) && (y0.getD y1.toNat T3.dflt).1 != (0 : Int)) = false → decide (y1 > (0 : Int)) = true → ((y0.getD y1.toNat T3.dflt).1 != (y0.getD (IntKind.i64.wrap (y1 - (1 : Int))).toNat T3.dflt).2.1) = false → (0 : Int) ≤ IntKind.i64.wrap (y1 - (1 : Int))) ∧ ((y1 == (0 : Int) && (y0.getD y1.toNat T3.dflt).1 != (0 : Int)) = false → decide (y1 > (0 : Int)) = true → ((y0.getD y1.toNat T3.dflt).1 != (y0.getD (IntKind.i64.wrap (y1 - (1 : Int))).toNat T3.dflt).2.1) = false → IntKind.i64.wrap (y1 - (1 : Int)) < (↑y0.length : Int)) then
  bif (y1 == (0 : Int) && (y0.getD y1.toNat T3.dflt).1 != (0 : Int) || decide (y1 > (0 : Int)) && ((y0.getD y1.toNat T3.dflt).1 != (y0.getD (IntKind.i64.wrap (y1 - (1 : Int))).toNat T3.dflt).2.1 || decide ((y0.getD y1.toNat T3.dflt).2.2.2.2 < (y0.getD (IntKind.i64.wrap (y1 - (1 : Int))).toNat T3.dflt).2.2.2.2))) then
  some 9
  else
  f_u62_16 k j y0 ((IntKind.i64.wrap (y1 + 1)))
  else none
  else
  some 0
end
def f_u62 (k : Nat) (l_ : List (T3).T) : Option R_u62 :=
  bif (decide ((↑l_.length : Int) > (512 : Int))) then
  some 8
  else
  f_u62_4 k k l_ 0
def v_u62 (k : Nat) (l_ : List (T3).T) : R_u62 := (f_u62 k l_).getD 0
def ke_u62 (k : Nat) : Ke := (25, fun xs => match xs with
  | [_] => some [false]
  | _ => none, fun xs bs => match xs, bs with
  | [.r (.ro tl__ ql_)], [] => (castL tl__ T3 ql_).bind fun l_ => some (.one (res_u62 (v_u62 k l_), bo_u62 l_ (v_u62 k l_)))
  | _, _ => none)
def cs_u62 : List (Nat × List Cmd) := [(4, [.autoB [0, 3] false []]), (16, [.autoB [0, 5] false []])]
abbrev E_u62 (l_ : List (T3).T) (todo : List Item) (st : St) (o : Option R_u62) : Prop := ∀ r, o = some r → Ev Tryz.prog Tryz.f25 0 todo st (res_u62 r) (bo_u62 l_ r)
theorem ev_u62 (k : Nat) (l_ : List (T3).T) : ∀ j, (∀ (y0 : List (T3).T) (y1 : Int), E_u62 l_ (placeAt Tryz.f25 4) (st_u62_4 y0 y1) (f_u62_4 k j y0 y1)) ∧ (∀ (y0 : List (T3).T) (y1 : Int), E_u62 l_ (placeAt Tryz.f25 16) (st_u62_16 y0 y1) (f_u62_16 k j y0 y1))
  | 0 => ⟨fun _ _ _ h => (nomatch h), fun _ _ _ h => (nomatch h)⟩
  | j + 1 => by
    have ih := @ev_u62 k l_ j
    refine ⟨?_, ?_⟩
    · intro y0 y1 r h
      rw [f_u62_4] at h
      exact go (mkK []) [] cs_u62 [.autoB [2] true []] (gT h (fun c h => gN2 h fun h => gT h (fun c h => gL h) fun c h => gT h (fun c h => gL h) fun c h => gT h (fun c h => gL h) fun c h => gT h (fun c h => gL h) fun c h => gC h 4 (ih.1 _ _ _)) fun c h => gC h 16 (ih.2 _ _ _)) (by kernel_rfl)
    · intro y0 y1 r h
      rw [f_u62_16] at h
      exact go (mkK []) [] cs_u62 [.autoB [2] true []] (gT h (fun c h => gN h (fun q => conjC q.1 (conjC q.2.1 (conjC q.2.2.1 (conjC q.2.2.2.1 (conjC q.2.2.2.2.1 (conjC q.2.2.2.2.2.1 (conjC q.2.2.2.2.2.2.1 (conjC q.2.2.2.2.2.2.2.1 (conjC q.2.2.2.2.2.2.2.2.1 (conjC q.2.2.2.2.2.2.2.2.2 conj0)))))))))) fun h => gT h (fun c h => gL h) fun c h => gC h 16 (ih.2 _ _ _)) fun c h => gL h) (by kernel_rfl)
theorem of_u62 (k : Nat) (l_ : List (T3).T) (r : R_u62) (h : f_u62 k l_ = some r) : C_u62 l_ r := by
  refine CC.of (fn := Tryz.f25) (by kernel_rfl) (by kernel_rfl) (by kernel_rfl) (by kernel_rfl) ?_
  unfold f_u62 at h
  exact go (mkK []) [] cs_u62 [.autoB [2] true []] (gT h (fun c h => gL h) fun c h => gC h 4 ((ev_u62 k l_ k).1 _ _ _)) (by kernel_rfl)
theorem cc_u62 {k : Nat} {l_ : List (T3).T} (h : (f_u62 k l_).isSome = true) : C_u62 l_ (v_u62 k l_) := ccG (Φ := C_u62 l_) h (of_u62 k l_)
abbrev R_u65 : Type := Int
def res_u65 (r : R_u65) : AV := .r (.v (.int .i64 r))
def bo_u65 (l_ : List (T3).T) (r : R_u65) : List (Nat × Blk) := []
def args_u65 (l_ : List (T3).T) : List AV := [.r (.ro T3 l_)]
def bin_u65 (l_ : List (T3).T) : List Blk := []
abbrev C_u65 (l_ : List (T3).T) (r : R_u65) : Prop := CC Tryz.prog 79 (args_u65 l_) (bin_u65 l_) (res_u65 r) (bo_u65 l_ r)
def f_u65 (k : Nat) (l_ : List (T3).T) : Option R_u65 :=
  bif ((↑l_.length : Int) == (0 : Int)) then
  some 0
  else
  if ((0 : Int) ≤ IntKind.i64.wrap ((↑l_.length : Int) - (1 : Int))) ∧ (IntKind.i64.wrap ((↑l_.length : Int) - (1 : Int)) < (↑l_.length : Int)) then
  some ((l_.getD (IntKind.i64.wrap ((↑l_.length : Int) - 1)).toNat T3.dflt).2.1)
  else none
def v_u65 (k : Nat) (l_ : List (T3).T) : R_u65 := (f_u65 k l_).getD 0
def ke_u65 (k : Nat) : Ke := (79, fun xs => match xs with
  | [_] => some [false]
  | _ => none, fun xs bs => match xs, bs with
  | [.r (.ro tl__ ql_)], [] => (castL tl__ T3 ql_).bind fun l_ => some (.one (res_u65 (v_u65 k l_), bo_u65 l_ (v_u65 k l_)))
  | _, _ => none)
theorem of_u65 (k : Nat) (l_ : List (T3).T) (r : R_u65) (h : f_u65 k l_ = some r) : C_u65 l_ r := by
  refine CC.of (fn := Tryz.f79) (by kernel_rfl) (by kernel_rfl) (by kernel_rfl) (by kernel_rfl) ?_
  unfold f_u65 at h
  exact go (mkK []) [] [] [.autoB [2] true []] (gT h (fun c h => gL h) fun c h => gN2 h fun h => gL h) (by kernel_rfl)
theorem cc_u65 {k : Nat} {l_ : List (T3).T} (h : (f_u65 k l_).isSome = true) : C_u65 l_ (v_u65 k l_) := ccG (Φ := C_u65 l_) h (of_u65 k l_)
abbrev R_u64 : Type := List (T3).T × Int
def res_u64 (r : R_u64) : AV := .tup [.r (.ro T3 r.1), .r (.v (.int .i64 r.2))]
def bo_u64 (l_ : List (T3).T) (s_ : T15.T) (r : R_u64) : List (Nat × Blk) := []
def args_u64 (l_ : List (T3).T) (s_ : T15.T) : List AV := [.r (.ro T3 l_), .agg (rvs (enc T15 s_))]
def bin_u64 (l_ : List (T3).T) (s_ : T15.T) : List Blk := []
abbrev C_u64 (l_ : List (T3).T) (s_ : T15.T) (r : R_u64) : Prop := CC Tryz.prog 59 (args_u64 l_ s_) (bin_u64 l_ s_) (res_u64 r) (bo_u64 l_ s_ r)
def st_u64_8 (y0 : List (T3).T) (y1 : Int) (y2 : T15.T) (y3 : List (T3).T) : St := ⟨mkS 75 [(0, .r (.ro T3 y0)), (3, .ptr 1000000 0 0), (7, .own 1000001 0), (8, .r (.v (.int .i64 y1)))], [(1000000, 0, .var 86 (rvs (enc T15 y2))), (1000001, 0, .row 82 T3 y3)]⟩
def f_u64_8 (k : Nat) : Nat → List (T3).T → Int → T15.T → List (T3).T → Option R_u64
  | 0, _, _, _, _ => none
  | j + 1, y0, y1, y2, y3 =>
  bif (decide (y1 < (↑y0.length : Int))) then
  if (0 ≤ y1) ∧ (y1 < (↑y0.length : Int)) then
  bif (decide (IntKind.i64.wrap ((if y2.1 > (y0.getD y1.toNat T3.dflt).1 then y2.1 else (y0.getD y1.toNat T3.dflt).1) - y2.1) < IntKind.i64.wrap ((if y2.2 < (y0.getD y1.toNat T3.dflt).2.1 then y2.2 else (y0.getD y1.toNat T3.dflt).2.1) - y2.1))) then
  if ((y3.length + [(IntKind.i64.wrap ((if y2.1 > (y0.getD y1.toNat T3.dflt).1 then y2.1 else (y0.getD y1.toNat T3.dflt).1) - y2.1), IntKind.i64.wrap ((if y2.2 < (y0.getD y1.toNat T3.dflt).2.1 then y2.2 else (y0.getD y1.toNat T3.dflt).2.1) - y2.1), (y0.getD y1.toNat T3.dflt).2.2)].length) * (40 : Nat) ≤ (140737488355328 : Nat)) then
  f_u64_8 k j y0 ((IntKind.i64.wrap (y1 + 1))) y2 ((y3 ++ [(IntKind.i64.wrap ((if y2.1 > (y0.getD y1.toNat T3.dflt).1 then y2.1 else (y0.getD y1.toNat T3.dflt).1) - y2.1), IntKind.i64.wrap ((if y2.2 < (y0.getD y1.toNat T3.dflt).2.1 then y2.2 else (y0.getD y1.toNat T3.dflt).2.1) - y2.1), (y0.getD y1.toNat T3.dflt).2.2)]))
  else none
  else
  f_u64_8 k j y0 ((IntKind.i64.wrap (y1 + 1))) y2 y3
  else none
  else
  some ((y3, 0))
def f_u64 (k : Nat) (l_ : List (T3).T) (s_ : T15.T) : Option R_u64 :=
  if ((f_u62 k l_).isSome = true) then
  bif (v_u62 k l_ != (0 : Int)) then
  some (([], v_u62 k l_))
  else
  bif (decide (s_.1 < (0 : Int)) || decide (s_.1 > s_.2) || decide (s_.2 > (17179869184 : Int))) then
  if ((decide (s_.1 < (0 : Int)) || decide (s_.1 > s_.2) || decide (s_.2 > (17179869184 : Int))) = true) then
  some (([], 1))
  else none
  else
  if ((decide (s_.1 < (0 : Int)) || decide (s_.1 > s_.2) || decide (s_.2 > (17179869184 : Int))) = false) ∧ ((f_u65 k l_).isSome = true) then
  bif (false || decide (s_.2 > v_u65 k l_)) then
  some (([], 1))
  else
  f_u64_8 k k l_ 0 s_ ([])
  else none
  else none
def v_u64 (k : Nat) (l_ : List (T3).T) (s_ : T15.T) : R_u64 := (f_u64 k l_ s_).getD ([], 0)
def ke_u64 (k : Nat) : Ke := (59, fun xs => match xs with
  | [_, _] => some [false, false]
  | _ => none, fun xs bs => match xs, bs with
  | [.r (.ro tl__ ql_), .agg qs_], [] => (castL tl__ T3 ql_).bind fun l_ => (decS [] T15 qs_).bind fun s_ => some (.one (res_u64 (v_u64 k l_ s_), bo_u64 l_ s_ (v_u64 k l_ s_)))
  | _, _ => none)
def cs_u64 : List (Nat × List Cmd) := [(8, [.row 7 82 T3, .autoB [0, 3, 7, 8] false []])]
abbrev E_u64 (l_ : List (T3).T) (s_ : T15.T) (todo : List Item) (st : St) (o : Option R_u64) : Prop := ∀ r, o = some r → Ev Tryz.prog Tryz.f59 0 todo st (res_u64 r) (bo_u64 l_ s_ r)
theorem ev_u64 (k : Nat) (l_ : List (T3).T) (s_ : T15.T) : ∀ j, (∀ (y0 : List (T3).T) (y1 : Int) (y2 : T15.T) (y3 : List (T3).T), E_u64 l_ s_ (placeAt Tryz.f59 8) (st_u64_8 y0 y1 y2 y3) (f_u64_8 k j y0 y1 y2 y3))
  | 0 => fun _ _ _ _ _ h => (nomatch h)
  | j + 1 => by
    have ih := @ev_u64 k l_ s_ j
    · intro y0 y1 y2 y3 r h
      rw [f_u64_8] at h
      exact go (mkK [ke_u62 k, ke_u65 k]) [] cs_u64 [.frz 4 false (RTy.list T3), .autoB [4, 5] true []] (gT h (fun c h => gN2 h fun h => gT h (fun c h => gN1 h id fun h => gC h 8 (ih _ _ _ _ _)) fun c h => gC h 8 (ih _ _ _ _ _)) fun c h => gL h) (by kernel_rfl)
theorem of_u64 (k : Nat) (l_ : List (T3).T) (s_ : T15.T) (r : R_u64) (h : f_u64 k l_ s_ = some r) : C_u64 l_ s_ r := by
  refine CC.of (fn := Tryz.f59) (by kernel_rfl) (by kernel_rfl) (by kernel_rfl) (by kernel_rfl) ?_
  unfold f_u64 at h
  exact go (mkK [ke_u62 k, ke_u65 k]) [] cs_u64 [.frz 4 false (RTy.list T3), .autoB [4, 5] true []] (gN1 h (fun q => cc_u62 q) fun h => gT h (fun c h => gL h) fun c h => gT h (fun c h => gN1 h id fun h => gU1 h (.cut 8 (placeAt Tryz.f59 8) ⟨mkS 75 [(0, .r (.ro T3 l_)), (3, .ptr 1000000 0 0), (7, .own 1000001 0), (8, .r (.v (.int .i64 0)))], [(1000000, 0, .var 86 (rvs (enc T15 s_))), (1000001, 0, .row 82 T3 ([]))]⟩) fun h => gL h) fun c h => gN h (fun q => conjC q.1 (conjC (cc_u65 q.2) conj0)) fun h => gT h (fun c h => gL h) fun c h => gC h 8 ((ev_u64 k l_ s_ k) _ _ _ _ _)) (by kernel_rfl)
theorem cc_u64 {k : Nat} {l_ : List (T3).T} {s_ : T15.T} (h : (f_u64 k l_ s_).isSome = true) : C_u64 l_ s_ (v_u64 k l_ s_) := ccG (Φ := C_u64 l_ s_) h (of_u64 k l_ s_)
abbrev R_u63 : Type := Int × Bool × Int
def res_u63 (r : R_u63) : AV := .tup [.r (.v (.int .i64 r.1)), .r (.v (.bool r.2.1)), .r (.v (.int .i64 r.2.2))]
def bo_u63 (l_ : List (T3).T) (s_ : T15.T) (r : R_u63) : List (Nat × Blk) := []
def args_u63 (l_ : List (T3).T) (s_ : T15.T) : List AV := [.r (.ro T3 l_), .agg (rvs (enc T15 s_))]
def bin_u63 (l_ : List (T3).T) (s_ : T15.T) : List Blk := []
abbrev C_u63 (l_ : List (T3).T) (s_ : T15.T) (r : R_u63) : Prop := CC Tryz.prog 27 (args_u63 l_ s_) (bin_u63 l_ s_) (res_u63 r) (bo_u63 l_ s_ r)
def st_u63_8 (y0 : List (T3).T) (y1 : Int) (y2 : Bool) (y3 : Int) : St := ⟨mkS 55 [(7, .r (.ro T3 y0)), (9, .r (.v (.int .i64 y1))), (10, .r (.v (.bool y2))), (11, .r (.v (.int .i64 y3)))], []⟩
def f_u63_8 (k : Nat) : Nat → List (T3).T → Int → Bool → Int → Option R_u63
  | 0, _, _, _, _ => none
  | j + 1, y0, y1, y2, y3 =>
  bif (decide (y3 < (↑y0.length : Int))) then
  if (0 ≤ y3) ∧ (y3 < (↑y0.length : Int)) ∧ ((0 : Int) ≤ (0 : Int)) ∧ ((0 : Int) < (↑y0.length : Int)) then
  bif ((y0.getD y3.toNat T3.dflt).2.2.2.1 != (y0.getD (Int.toNat (0 : Int)) T3.dflt).2.2.2.1) then
  if (y2 = true → 0 ≤ y3) ∧ (y2 = true → y3 < (↑y0.length : Int)) then
  f_u63_8 k j y0 ((-1)) ((y2 && (y0.getD y3.toNat T3.dflt).2.2.1 == 1)) ((IntKind.i64.wrap (y3 + 1)))
  else none
  else
  if (y2 = true → 0 ≤ y3) ∧ (y2 = true → y3 < (↑y0.length : Int)) then
  f_u63_8 k j y0 y1 ((y2 && (y0.getD y3.toNat T3.dflt).2.2.1 == 1)) ((IntKind.i64.wrap (y3 + 1)))
  else none
  else none
  else
  some ((y1, y2, 0))
def f_u63 (k : Nat) (l_ : List (T3).T) (s_ : T15.T) : Option R_u63 :=
  if ((f_u64 k l_ s_).isSome = true) then
  bif ((v_u64 k l_ s_).2 != (0 : Int)) then
  some ((0, false, (v_u64 k l_ s_).2))
  else
  bif ((↑ (v_u64 k l_ s_).1.length : Int) == (0 : Int)) then
  some ((-1, false, 0))
  else
  if ((0 : Int) ≤ (0 : Int)) ∧ ((0 : Int) < (↑ (v_u64 k l_ s_).1.length : Int)) then
  f_u63_8 k k ((v_u64 k l_ s_).1) (((v_u64 k l_ s_).1.getD (Int.toNat 0) T3.dflt).2.2.2.1) true 0
  else none
  else none
def v_u63 (k : Nat) (l_ : List (T3).T) (s_ : T15.T) : R_u63 := (f_u63 k l_ s_).getD (0, false, 0)
def ke_u63 (k : Nat) : Ke := (27, fun xs => match xs with
  | [_, _] => some [false, false]
  | _ => none, fun xs bs => match xs, bs with
  | [.r (.ro tl__ ql_), .agg qs_], [] => (castL tl__ T3 ql_).bind fun l_ => (decS [] T15 qs_).bind fun s_ => some (.one (res_u63 (v_u63 k l_ s_), bo_u63 l_ s_ (v_u63 k l_ s_)))
  | _, _ => none)
def cs_u63 : List (Nat × List Cmd) := [(8, [.autoB [7, 9, 10, 11] false []])]
abbrev E_u63 (l_ : List (T3).T) (s_ : T15.T) (todo : List Item) (st : St) (o : Option R_u63) : Prop := ∀ r, o = some r → Ev Tryz.prog Tryz.f27 0 todo st (res_u63 r) (bo_u63 l_ s_ r)
theorem ev_u63 (k : Nat) (l_ : List (T3).T) (s_ : T15.T) : ∀ j, (∀ (y0 : List (T3).T) (y1 : Int) (y2 : Bool) (y3 : Int), E_u63 l_ s_ (placeAt Tryz.f27 8) (st_u63_8 y0 y1 y2 y3) (f_u63_8 k j y0 y1 y2 y3))
  | 0 => fun _ _ _ _ _ h => (nomatch h)
  | j + 1 => by
    have ih := @ev_u63 k l_ s_ j
    · intro y0 y1 y2 y3 r h
      rw [f_u63_8] at h
      exact go (mkK [ke_u64 k]) [] cs_u63 [.autoB [4, 5, 6] true []] (gT h (fun c h => gN h (fun q => conjC q.1 (conjC q.2.1 (conjC q.2.2.1 (conjC q.2.2.2 conj0)))) fun h => gT h (fun c h => gN2 h fun h => gC h 8 (ih _ _ _ _ _)) fun c h => gN2 h fun h => gC h 8 (ih _ _ _ _ _)) fun c h => gL h) (by kernel_rfl)
theorem of_u63 (k : Nat) (l_ : List (T3).T) (s_ : T15.T) (r : R_u63) (h : f_u63 k l_ s_ = some r) : C_u63 l_ s_ r := by
  refine CC.of (fn := Tryz.f27) (by kernel_rfl) (by kernel_rfl) (by kernel_rfl) (by kernel_rfl) ?_
  unfold f_u63 at h
  exact go (mkK [ke_u64 k]) [] cs_u63 [.autoB [4, 5, 6] true []] (gN1 h (fun q => cc_u64 q) fun h => gT h (fun c h => gL h) fun c h => gT h (fun c h => gL h) fun c h => gN2 h fun h => gC h 8 ((ev_u63 k l_ s_ k) _ _ _ _ _)) (by kernel_rfl)
theorem cc_u63 {k : Nat} {l_ : List (T3).T} {s_ : T15.T} (h : (f_u63 k l_ s_).isSome = true) : C_u63 l_ s_ (v_u63 k l_ s_) := ccG (Φ := C_u63 l_ s_) h (of_u63 k l_ s_)

end
/-! ### sections -/
abbrev Sec := Int × Int × Int × Int × Int   -- From, To, Kind, Grade, Phase
def secOne (s : Sec) : Int :=
  bif (decide (s.1 < (0 : Int)) || decide (s.1 ≥ s.2.1) || decide (s.2.1 > (17179869184 : Int))) then 1
  else bif (decide (s.2.2.1 < (1 : Int)) || decide (s.2.2.1 > (3 : Int))) then 17
  else bif (decide (s.2.2.2.1 < (-1 : Int)) || decide (s.2.2.2.1 ≥ (16 : Int))) then 22
  else bif (decide (s.2.2.2.2 < (0 : Int)) || decide (s.2.2.2.2 > (2048 : Int))) then 1 else 0
def secGo : List Sec → Int
  | [] => 0
  | x :: t => bif secOne x != 0 then secOne x else secGo t
def secOrd (e p : Int) : List Sec → Int
  | [] => 0
  | x :: t => bif (x.1 != e || decide (x.2.2.2.2 < p)) then 9 else secOrd x.2.1 x.2.2.2.2 t
def secE (l : List Sec) : Int := if l.length > 512 then 8 else if secGo l ≠ 0 then secGo l else secOrd 0 0 l
theorem checkOne_s (k : Nat) (s : Sec) : f_u86 k s = some (secOne s) := by
  unfold f_u86 secOne
  cases (decide (s.1 < (0 : Int)) || decide (s.1 ≥ s.2.1) || decide (s.2.1 > (17179869184 : Int)))
  · cases (decide (s.2.2.1 < (1 : Int)) || decide (s.2.2.1 > (3 : Int)))
    · cases (decide (s.2.2.2.1 < (-1 : Int)) || decide (s.2.2.2.1 ≥ (16 : Int)))
      · cases (decide (s.2.2.2.2 < (0 : Int)) || decide (s.2.2.2.2 > (2048 : Int))) <;> rfl
      · rfl
    · rfl
  · rfl
theorem checkOne_v (k : Nat) (s : Sec) : v_u86 k s = secOne s := by unfold v_u86; rw [checkOne_s]; rfl
structure SecOk (s : Sec) : Prop where
  f : 0 ≤ s.1
  ft : s.1 < s.2.1
  t : s.2.1 ≤ 17179869184
  p : 0 ≤ s.2.2.2.2
theorem secOne_zero {s : Sec} (h : secOne s = 0) : SecOk s := by
  unfold secOne at h
  cases h1 : (decide (s.1 < (0 : Int)) || decide (s.1 ≥ s.2.1) || decide (s.2.1 > (17179869184 : Int)))
  · rw [h1, cond_false] at h
    cases h2 : (decide (s.2.2.1 < (1 : Int)) || decide (s.2.2.1 > (3 : Int)))
    · rw [h2, cond_false] at h
      cases h3 : (decide (s.2.2.2.1 < (-1 : Int)) || decide (s.2.2.2.1 ≥ (16 : Int)))
      · rw [h3, cond_false] at h
        cases h4 : (decide (s.2.2.2.2 < (0 : Int)) || decide (s.2.2.2.2 > (2048 : Int)))
        · simp only [Bool.or_eq_false_iff, decide_eq_false_iff_not] at h1 h4
          exact ⟨by omega, by omega, by omega, by omega⟩
        · rw [h4] at h; cases h
      · rw [h3] at h; cases h
    · rw [h2] at h; cases h
  · rw [h1] at h; cases h
theorem secGo_zero : ∀ {l : List Sec}, secGo l = 0 → ∀ x ∈ l, SecOk x
  | [], _, x, hx => by simp at hx
  | y :: t, h, x, hx => by
    unfold secGo at h
    by_cases h1 : secOne y = 0
    · rw [show (secOne y != 0) = false by simp [h1], cond_false] at h
      rcases List.mem_cons.1 hx with e | hx'
      · rw [e]; exact secOne_zero h1
      · exact secGo_zero h x hx'
    · rw [bne_iff_ne.2 h1, cond_true] at h; exact absurd h h1
theorem reel_12 (k : Nat) (l : List Sec) (hl : l.length ≤ 512) : ∀ (d i j : Nat) (e p : Int), i + d = l.length → d < j → f_u84_12 k j e p l (l.length : Int) (i : Int) = some (secOrd e p (l.drop i)) := by
  intro d
  induction d with
  | zero =>
    intro i j e p hi hj
    obtain ⟨j, rfl⟩ : ∃ q, j = q + 1 := ⟨j - 1, by omega⟩
    rw [f_u84_12, decide_eq_false (by omega : ¬ (i : Int) < (l.length : Int)), cond_false, List.drop_of_length_le (by omega)]; rfl
  | succ d ih =>
    intro i j e p hi hj
    obtain ⟨j, rfl⟩ : ∃ q, j = q + 1 := ⟨j - 1, by omega⟩
    rw [f_u84_12, decide_eq_true (by omega : (i : Int) < (l.length : Int)), cond_true, if_pos ⟨by omega, by omega⟩, Int.toNat_natCast, wrapS i (by omega), drop_cons' l i T3.dflt (by omega), secOrd, ih (i + 1) j _ _ (by omega) (by omega)]
    cases ((l.getD i T3.dflt).1 != e || decide ((l.getD i T3.dflt).2.2.2.2 < p)) <;> rfl
theorem reel_4 (k : Nat) (l : List Sec) (hl : l.length ≤ 512) : ∀ (d i j : Nat), i + d = l.length → d + 600 < j → f_u84_4 k j l l (l.length : Int) (i : Int) = some (if secGo (l.drop i) ≠ 0 then secGo (l.drop i) else secOrd 0 0 l) := by
  intro d
  induction d with
  | zero =>
    intro i j hi hj
    obtain ⟨j, rfl⟩ : ∃ q, j = q + 1 := ⟨j - 1, by omega⟩
    rw [f_u84_4, decide_eq_false (by omega : ¬ (i : Int) < (l.length : Int)), cond_false, List.drop_of_length_le (by omega), secGo, if_neg (fun h => h rfl)]
    exact reel_12 k l hl l.length 0 j 0 0 (by omega) (by omega)
  | succ d ih =>
    intro i j hi hj
    obtain ⟨j, rfl⟩ : ∃ q, j = q + 1 := ⟨j - 1, by omega⟩
    rw [f_u84_4, decide_eq_true (by omega : (i : Int) < (l.length : Int)), cond_true, if_pos ⟨by omega, by omega⟩, Int.toNat_natCast, checkOne_s, checkOne_v, Option.isSome_some, if_pos rfl, wrapS i (by omega), drop_cons' l i T3.dflt (by omega), secGo, ih (i + 1) j (by omega) (by omega)]
    by_cases h : secOne (l.getD i T3.dflt) = 0
    · rw [show (secOne (l.getD i T3.dflt) != 0) = false by rw [h]; rfl, cond_false, cond_false]
    · rw [bne_iff_ne.2 h, cond_true, cond_true, if_pos h]
theorem reel_Check_s (k : Nat) (hk : 1200 ≤ k) (l : List Sec) : f_u84 k l = some (secE l) := by
  unfold f_u84 secE
  by_cases h : l.length > 512
  · rw [if_pos h, decide_eq_true (by omega : (l.length : Int) > 512)]; rfl
  · rw [if_neg h, decide_eq_false (by omega : ¬ (l.length : Int) > 512), cond_false]
    exact reel_4 k l (by omega) l.length 0 k (by omega) (by omega)
theorem reel_Check_v (k : Nat) (hk : 1200 ≤ k) (l : List Sec) : v_u84 k l = secE l := by
  unfold v_u84; rw [reel_Check_s k hk]; rfl
/-- the end and the phase before a section -/
def preE (l : List Sec) (i : Nat) : Int := if i = 0 then 0 else (l.getD (i - 1) T3.dflt).2.1
def preP (l : List Sec) (i : Nat) : Int := if i = 0 then 0 else (l.getD (i - 1) T3.dflt).2.2.2.2
theorem ref34_16 (k : Nat) (l : List Sec) (hl : l.length ≤ 512) (ho : ∀ x ∈ l, SecOk x) : ∀ (d i j : Nat), i + d = l.length → d < j → f_u62_16 k j l (i : Int) = some (secOrd (preE l i) (preP l i) (l.drop i)) := by
  intro d
  induction d with
  | zero =>
    intro i j hi hj
    obtain ⟨j, rfl⟩ : ∃ q, j = q + 1 := ⟨j - 1, by omega⟩
    rw [f_u62_16, decide_eq_false (by omega : ¬ (i : Int) < (l.length : Int)), cond_false, List.drop_of_length_le (by omega)]; rfl
  | succ d ih =>
    intro i j hi hj
    obtain ⟨j, rfl⟩ : ∃ q, j = q + 1 := ⟨j - 1, by omega⟩
    have h3 : (0 : Int) ≤ (i : Int) := by omega
    have h4 : (i : Int) < (l.length : Int) := by omega
    have hx := (ho (l.getD i T3.dflt) (getD_mem' _ _ _ (by omega))).p
    have hw : (i : Int) > 0 → IntKind.i64.wrap ((i : Int) - 1) = ((i - 1 : Nat) : Int) := fun h => by rw [wrap_id (by omega) (by omega)]; omega
    have g1 : decide ((i : Int) > 0) = true → (0 : Int) ≤ IntKind.i64.wrap ((i : Int) - 1) := fun h => by rw [hw (of_decide_eq_true h)]; omega
    have g2 : decide ((i : Int) > 0) = true → IntKind.i64.wrap ((i : Int) - 1) < (l.length : Int) := fun h => by rw [hw (of_decide_eq_true h)]; omega
    rw [f_u62_16, decide_eq_true h4, cond_true, Int.toNat_natCast, if_pos ⟨fun _ => h3, fun _ => h4, fun _ _ => h3, fun _ _ => h4, fun _ h => g1 h, fun _ h => g2 h, fun _ _ _ => h3, fun _ _ _ => h4, fun _ h _ => g1 h, fun _ h _ => g2 h⟩, wrapS i (by omega), ih (i + 1) j (by omega) (by omega), drop_cons' l i T3.dflt (by omega), secOrd]
    have e1 : preE l (i + 1) = (l.getD i T3.dflt).2.1 := by unfold preE; rw [if_neg (by omega), Nat.add_sub_cancel]
    have e2 : preP l (i + 1) = (l.getD i T3.dflt).2.2.2.2 := by unfold preP; rw [if_neg (by omega), Nat.add_sub_cancel]
    rw [e1, e2]
    have hb : ((i : Int) == 0 && (l.getD i T3.dflt).1 != 0 || decide ((i : Int) > 0) && ((l.getD i T3.dflt).1 != (l.getD (IntKind.i64.wrap ((i : Int) - 1)).toNat T3.dflt).2.1 || decide ((l.getD i T3.dflt).2.2.2.2 < (l.getD (IntKind.i64.wrap ((i : Int) - 1)).toNat T3.dflt).2.2.2.2))) = ((l.getD i T3.dflt).1 != preE l i || decide ((l.getD i T3.dflt).2.2.2.2 < preP l i)) := by
      unfold preE preP
      by_cases h : i = 0
      · subst h
        rw [if_pos rfl, if_pos rfl, decide_eq_false (by omega : ¬ (l.getD 0 T3.dflt).2.2.2.2 < 0)]
        show (true && _ || false && _) = _
        rw [Bool.true_and, Bool.false_and]
      · have h' : (i : Int) > 0 := by omega
        rw [if_neg h, if_neg h, hw h', Int.toNat_natCast, decide_eq_true h', Bool.true_and, show ((i : Int) == 0) = false from beq_eq_false_iff_ne.2 (by omega), Bool.false_and, Bool.false_or]
    rw [hb]
    cases ((l.getD i T3.dflt).1 != preE l i || decide ((l.getD i T3.dflt).2.2.2.2 < preP l i)) <;> rfl
theorem ref34_4 (k : Nat) (l : List Sec) (hl : l.length ≤ 512) : ∀ (d i j : Nat), i + d = l.length → d + 600 < j → (∀ x ∈ l.take i, SecOk x) → f_u62_4 k j l (i : Int) = some (if secGo (l.drop i) ≠ 0 then secGo (l.drop i) else secOrd 0 0 l) := by
  intro d
  induction d with
  | zero =>
    intro i j hi hj ho
    obtain ⟨j, rfl⟩ : ∃ q, j = q + 1 := ⟨j - 1, by omega⟩
    rw [f_u62_4, decide_eq_false (by omega : ¬ (i : Int) < (l.length : Int)), cond_false, List.drop_of_length_le (by omega), secGo, if_neg (fun h => h rfl)]
    rw [List.take_of_length_le (by omega)] at ho
    exact ref34_16 k l hl ho l.length 0 j (by omega) (by omega)
  | succ d ih =>
    intro i j hi hj ho
    obtain ⟨j, rfl⟩ : ∃ q, j = q + 1 := ⟨j - 1, by omega⟩
    rw [f_u62_4, decide_eq_true (by omega : (i : Int) < (l.length : Int)), cond_true, if_pos ⟨by omega, by omega⟩, Int.toNat_natCast, wrapS i (by omega), drop_cons' l i T3.dflt (by omega), secGo]
    have ht : l.take (i + 1) = l.take i ++ [l.getD i T3.dflt] := by
      rw [List.take_add_one, List.getD_eq_getElem?_getD]
      rw [List.getElem?_eq_getElem (by omega)]; rfl
    by_cases h : secOne (l.getD i T3.dflt) = 0
    · rw [ih (i + 1) j (by omega) (by omega) (fun x hx => by
        rw [ht] at hx
        rcases List.mem_append.1 hx with hx | hx
        · exact ho x hx
        · rw [List.mem_singleton] at hx; rw [hx]; exact secOne_zero h)]
      rw [show (secOne (l.getD i T3.dflt) != 0) = false by rw [h]; rfl, cond_false]
      unfold secOne at h
      generalize l.getD i T3.dflt = s at *
      revert h
      cases (decide (s.1 < (0 : Int)) || decide (s.1 ≥ s.2.1) || decide (s.2.1 > (17179869184 : Int)))
      · cases (decide (s.2.2.1 < (1 : Int)) || decide (s.2.2.1 > (3 : Int)))
        · cases (decide (s.2.2.2.1 < (-1 : Int)) || decide (s.2.2.2.1 ≥ (16 : Int)))
          · cases (decide (s.2.2.2.2 < (0 : Int)) || decide (s.2.2.2.2 > (2048 : Int)))
            · intro _; rfl
            · intro h; cases h
          · intro h; cases h
        · intro h; cases h
      · intro h; cases h
    · rw [bne_iff_ne.2 h, cond_true, if_pos h]
      unfold secOne at h ⊢
      generalize l.getD i T3.dflt = s at *
      revert h
      cases (decide (s.1 < (0 : Int)) || decide (s.1 ≥ s.2.1) || decide (s.2.1 > (17179869184 : Int)))
      · cases (decide (s.2.2.1 < (1 : Int)) || decide (s.2.2.1 > (3 : Int)))
        · cases (decide (s.2.2.2.1 < (-1 : Int)) || decide (s.2.2.2.1 ≥ (16 : Int)))
          · cases (decide (s.2.2.2.2 < (0 : Int)) || decide (s.2.2.2.2 > (2048 : Int)))
            · intro h; exact absurd rfl h
            · intro _; rfl
          · intro _; rfl
        · intro _; rfl
      · intro _; rfl
theorem ref34_Check_s (k : Nat) (hk : 1200 ≤ k) (l : List Sec) : f_u62 k l = some (secE l) := by
  unfold f_u62 secE
  by_cases h : l.length > 512
  · rw [if_pos h, decide_eq_true (by omega : (l.length : Int) > 512)]; rfl
  · rw [if_neg h, decide_eq_false (by omega : ¬ (l.length : Int) > 512), cond_false]
    exact ref34_4 k l (by omega) l.length 0 k (by omega) (by omega) (fun x hx => by simp at hx)
theorem ref34_Check_v (k : Nat) (hk : 1200 ≤ k) (l : List Sec) : v_u62 k l = secE l := by
  unfold v_u62; rw [ref34_Check_s k hk]; rfl
theorem secE_zero {l : List Sec} (h : secE l = 0) : l.length ≤ 512 ∧ (∀ x ∈ l, SecOk x) ∧ secOrd 0 0 l = 0 := by
  unfold secE at h
  by_cases h1 : l.length > 512
  · rw [if_pos h1] at h; omega
  · rw [if_neg h1] at h
    by_cases h2 : secGo l = 0
    · rw [if_neg (fun h => h h2)] at h
      exact ⟨by omega, secGo_zero h2, h⟩
    · rw [if_pos h2] at h; exact absurd h h2
/-- where the sections end -/
def endS (l : List Sec) : Int := if l.length = 0 then 0 else (l.getD (l.length - 1) T3.dflt).2.1
theorem endS_cons (x : Sec) {t : List Sec} (h : t ≠ []) : endS (x :: t) = endS t := by
  obtain ⟨y, t, rfl⟩ : ∃ y u, t = y :: u := by
    cases t with
    | nil => exact absurd rfl h
    | cons y u => exact ⟨y, u, rfl⟩
  unfold endS
  rw [if_neg (by simp), if_neg (by simp)]
  rfl
/-- an integer of the web lies in a section -/
theorem sec_at : ∀ (l : List Sec) (e p z : Int), (∀ x ∈ l, SecOk x) → secOrd e p l = 0 → l ≠ [] → e ≤ z → z < endS l → ∃ x ∈ l, x.1 ≤ z ∧ z < x.2.1
  | [], _, _, _, _, _, h, _, _ => absurd rfl h
  | x :: t, e, p, z, ho, h, _, h0, h1 => by
    unfold secOrd at h
    cases hb : (x.1 != e || decide (x.2.2.2.2 < p))
    · rw [hb, cond_false] at h
      have hx : x.1 = e := by
        have := (Bool.or_eq_false_iff.1 hb).1
        simpa using this
      by_cases hz : z < x.2.1
      · exact ⟨x, by simp, by omega, hz⟩
      · by_cases ht : t = []
        · subst ht
          have : endS [x] = x.2.1 := rfl
          omega
        · rw [endS_cons x ht] at h1
          obtain ⟨y, hy, a, b⟩ := sec_at t x.2.1 x.2.2.2.2 z (fun y hy => ho y (by simp [hy])) h ht (by omega) h1
          exact ⟨y, by simp [hy], a, b⟩
    · rw [hb] at h; cases h
/-- the parts of a span -/
def prt1 (s : Sp) (x : Sec) : List Sec := if max x.1 s.1 - s.1 < min x.2.1 s.2 - s.1 then [(max x.1 s.1 - s.1, min x.2.1 s.2 - s.1, x.2.2)] else []
def prtL (s : Sp) : List Sec → List Sec
  | [] => []
  | x :: t => prt1 s x ++ prtL s t
theorem prtL_len (s : Sp) : ∀ l : List Sec, (prtL s l).length ≤ l.length
  | [] => Nat.le_refl _
  | x :: t => by
    have := prtL_len s t
    unfold prtL prt1
    rw [List.length_append, List.length_cons]
    split <;> simp <;> omega
theorem prtL_ne {l : List Sec} (h : secE l = 0) {s : Sp} (h0 : 0 ≤ s.1) (h1 : s.1 < s.2) (h2 : s.2 ≤ endS l) : prtL s l ≠ [] := by
  obtain ⟨a, b, c⟩ := secE_zero h
  have hl : l ≠ [] := fun e => by rw [e] at h2; have : endS [] = 0 := rfl; omega
  obtain ⟨x, hx, x0, x1⟩ := sec_at l 0 0 s.1 b c hl h0 (by omega)
  have : ∀ l : List Sec, x ∈ l → prtL s l ≠ [] := fun l => by
    induction l with
    | nil => intro h; simp at h
    | cons y t ih =>
      intro hm
      unfold prtL
      rcases List.mem_cons.1 hm with e | hm
      · subst e
        unfold prt1
        rw [if_pos (by omega)]; simp
      · intro e
        exact ih hm (List.append_eq_nil_iff.1 e).2
  exact this l hx
end Go.AM
namespace Go.AM
open Go Go.Proofs
noncomputable section
abbrev R_u13 : Type := Bool
def res_u13 (r : R_u13) : AV := .r (.v (.bool r))
def bo_u13 (g_0 : Int) (g_1 : Int) (g_2 : List (T2).T) (g_3 : List ((I).T × (I).T)) (id_ : Int) (r : R_u13) : List (Nat × Blk) := [(0, .var 127 [.r (.v (.int .i64 g_0)), .r (.v (.int .i64 g_1)), .r (.ro T2 g_2), .own 1 0]), (0, .map false I I g_3)]
def args_u13 (g_0 : Int) (g_1 : Int) (g_2 : List (T2).T) (g_3 : List ((I).T × (I).T)) (id_ : Int) : List AV := [.ptr 0 0 0, .r (.v (.int .i64 id_))]
def bin_u13 (g_0 : Int) (g_1 : Int) (g_2 : List (T2).T) (g_3 : List ((I).T × (I).T)) (id_ : Int) : List Blk := [.var 127 [.r (.v (.int .i64 g_0)), .r (.v (.int .i64 g_1)), .r (.ro T2 g_2), .own 1 0], .map false I I g_3]
abbrev C_u13 (g_0 : Int) (g_1 : Int) (g_2 : List (T2).T) (g_3 : List ((I).T × (I).T)) (id_ : Int) (r : R_u13) : Prop := CC Tryz.prog 64 (args_u13 g_0 g_1 g_2 g_3 id_) (bin_u13 g_0 g_1 g_2 g_3 id_) (res_u13 r) (bo_u13 g_0 g_1 g_2 g_3 id_ r)
def f_u13 (k : Nat) (g_0 : Int) (g_1 : Int) (g_2 : List (T2).T) (g_3 : List ((I).T × (I).T)) (id_ : Int) : Option R_u13 :=
  some ((mget I id_ g_3).isSome)
def v_u13 (k : Nat) (g_0 : Int) (g_1 : Int) (g_2 : List (T2).T) (g_3 : List ((I).T × (I).T)) (id_ : Int) : R_u13 := (f_u13 k g_0 g_1 g_2 g_3 id_).getD false
def ke_u13 (k : Nat) : Ke := (64, fun xs => match xs with
  | [.ptr _ _ _, _] => some [true, false]
  | _ => none, fun xs bs => match xs, bs with
  | [.ptr 0 0 0, .r (.v (.int .i64 id_))], [.var 127 [.r (.v (.int .i64 g_0)), .r (.v (.int .i64 g_1)), .r (.ro tg_2_ qg_2), .own 1 0], .map false kg_3_ tg_3_ qg_3] => (castL tg_2_ T2 qg_2).bind fun g_2 => (castM kg_3_ tg_3_ I I qg_3).bind fun g_3 => some (.one (res_u13 (v_u13 k g_0 g_1 g_2 g_3 id_), bo_u13 g_0 g_1 g_2 g_3 id_ (v_u13 k g_0 g_1 g_2 g_3 id_)))
  | _, _ => none)
theorem of_u13 (k : Nat) (g_0 : Int) (g_1 : Int) (g_2 : List (T2).T) (g_3 : List ((I).T × (I).T)) (id_ : Int) (r : R_u13) (h : f_u13 k g_0 g_1 g_2 g_3 id_ = some r) : C_u13 g_0 g_1 g_2 g_3 id_ r := by
  refine CC.of (fn := Tryz.f64) (by kernel_rfl) (by kernel_rfl) (by kernel_rfl) (by kernel_rfl) ?_
  unfold f_u13 at h
  exact go (mkK []) [] [] [.autoB [4] true []] (gL h) (by kernel_rfl)
theorem cc_u13 {k : Nat} {g_0 : Int} {g_1 : Int} {g_2 : List (T2).T} {g_3 : List ((I).T × (I).T)} {id_ : Int} (h : (f_u13 k g_0 g_1 g_2 g_3 id_).isSome = true) : C_u13 g_0 g_1 g_2 g_3 id_ (v_u13 k g_0 g_1 g_2 g_3 id_) := ccG (Φ := C_u13 g_0 g_1 g_2 g_3 id_) h (of_u13 k g_0 g_1 g_2 g_3 id_)
abbrev R_u14 : Type := Int × Int
def res_u14 (r : R_u14) : AV := .tup [.r (.v (.int .i64 r.1)), .r (.v (.int .i64 r.2))]
def bo_u14 (g_0 : Int) (g_1 : Int) (g_2 : List (T2).T) (g_3 : List ((I).T × (I).T)) (id_ : Int) (r : R_u14) : List (Nat × Blk) := [(0, .var 127 [.r (.v (.int .i64 g_0)), .r (.v (.int .i64 g_1)), .r (.ro T2 g_2), .own 1 0]), (0, .map false I I g_3)]
def args_u14 (g_0 : Int) (g_1 : Int) (g_2 : List (T2).T) (g_3 : List ((I).T × (I).T)) (id_ : Int) : List AV := [.ptr 0 0 0, .r (.v (.int .i64 id_))]
def bin_u14 (g_0 : Int) (g_1 : Int) (g_2 : List (T2).T) (g_3 : List ((I).T × (I).T)) (id_ : Int) : List Blk := [.var 127 [.r (.v (.int .i64 g_0)), .r (.v (.int .i64 g_1)), .r (.ro T2 g_2), .own 1 0], .map false I I g_3]
abbrev C_u14 (g_0 : Int) (g_1 : Int) (g_2 : List (T2).T) (g_3 : List ((I).T × (I).T)) (id_ : Int) (r : R_u14) : Prop := CC Tryz.prog 32 (args_u14 g_0 g_1 g_2 g_3 id_) (bin_u14 g_0 g_1 g_2 g_3 id_) (res_u14 r) (bo_u14 g_0 g_1 g_2 g_3 id_ r)
def f_u14 (k : Nat) (g_0 : Int) (g_1 : Int) (g_2 : List (T2).T) (g_3 : List ((I).T × (I).T)) (id_ : Int) : Option R_u14 :=
  bif (id_ == (0 : Int)) then
  some ((g_0, g_1))
  else
  if ((0 : Int) ≤ (mget I id_ g_3).getD (0 : Int)) ∧ ((mget I id_ g_3).getD (0 : Int) < (↑g_2.length : Int)) then
  if ((f_u23 k (g_2.getD (Int.toNat ((mget I id_ g_3).getD 0)) T2.dflt).2.2.2.2.2).isSome = true) then
  some (((g_2.getD (Int.toNat ((mget I id_ g_3).getD 0)) T2.dflt).2.2.2.1, (v_u23 k (g_2.getD (Int.toNat ((mget I id_ g_3).getD 0)) T2.dflt).2.2.2.2.2).1))
  else none
  else none
def v_u14 (k : Nat) (g_0 : Int) (g_1 : Int) (g_2 : List (T2).T) (g_3 : List ((I).T × (I).T)) (id_ : Int) : R_u14 := (f_u14 k g_0 g_1 g_2 g_3 id_).getD (0, 0)
def ke_u14 (k : Nat) : Ke := (32, fun xs => match xs with
  | [.ptr _ _ _, _] => some [true, false]
  | _ => none, fun xs bs => match xs, bs with
  | [.ptr 0 0 0, .r (.v (.int .i64 id_))], [.var 127 [.r (.v (.int .i64 g_0)), .r (.v (.int .i64 g_1)), .r (.ro tg_2_ qg_2), .own 1 0], .map false kg_3_ tg_3_ qg_3] => (castL tg_2_ T2 qg_2).bind fun g_2 => (castM kg_3_ tg_3_ I I qg_3).bind fun g_3 => some (.one (res_u14 (v_u14 k g_0 g_1 g_2 g_3 id_), bo_u14 g_0 g_1 g_2 g_3 id_ (v_u14 k g_0 g_1 g_2 g_3 id_)))
  | _, _ => none)
theorem of_u14 (k : Nat) (g_0 : Int) (g_1 : Int) (g_2 : List (T2).T) (g_3 : List ((I).T × (I).T)) (id_ : Int) (r : R_u14) (h : f_u14 k g_0 g_1 g_2 g_3 id_ = some r) : C_u14 g_0 g_1 g_2 g_3 id_ r := by
  refine CC.of (fn := Tryz.f32) (by kernel_rfl) (by kernel_rfl) (by kernel_rfl) (by kernel_rfl) ?_
  unfold f_u14 at h
  exact go (mkK [ke_u23 k]) [] [] [.autoB [4, 5] true []] (gT h (fun c h => gL h) fun c h => gN2 h fun h => gN1 h (fun q => cc_u23 q) fun h => gL h) (by kernel_rfl)
theorem cc_u14 {k : Nat} {g_0 : Int} {g_1 : Int} {g_2 : List (T2).T} {g_3 : List ((I).T × (I).T)} {id_ : Int} (h : (f_u14 k g_0 g_1 g_2 g_3 id_).isSome = true) : C_u14 g_0 g_1 g_2 g_3 id_ (v_u14 k g_0 g_1 g_2 g_3 id_) := ccG (Φ := C_u14 g_0 g_1 g_2 g_3 id_) h (of_u14 k g_0 g_1 g_2 g_3 id_)
abbrev R_u12 : Type := Int
def res_u12 (r : R_u12) : AV := .r (.v (.int .i64 r))
def bo_u12 (g_0 : Int) (g_1 : Int) (g_2 : List (T2).T) (g_3 : List ((I).T × (I).T)) (r_ : T2.T) (r : R_u12) : List (Nat × Blk) := [(0, .var 127 [.r (.v (.int .i64 g_0)), .r (.v (.int .i64 g_1)), .r (.ro T2 g_2), .own 1 0]), (0, .map false I I g_3)]
def args_u12 (g_0 : Int) (g_1 : Int) (g_2 : List (T2).T) (g_3 : List ((I).T × (I).T)) (r_ : T2.T) : List AV := [.ptr 0 0 0, .agg (rvs (enc T2 r_))]
def bin_u12 (g_0 : Int) (g_1 : Int) (g_2 : List (T2).T) (g_3 : List ((I).T × (I).T)) (r_ : T2.T) : List Blk := [.var 127 [.r (.v (.int .i64 g_0)), .r (.v (.int .i64 g_1)), .r (.ro T2 g_2), .own 1 0], .map false I I g_3]
abbrev C_u12 (g_0 : Int) (g_1 : Int) (g_2 : List (T2).T) (g_3 : List ((I).T × (I).T)) (r_ : T2.T) (r : R_u12) : Prop := CC Tryz.prog 84 (args_u12 g_0 g_1 g_2 g_3 r_) (bin_u12 g_0 g_1 g_2 g_3 r_) (res_u12 r) (bo_u12 g_0 g_1 g_2 g_3 r_ r)
def st_u12_17 (g_0 : Int) (g_1 : Int) (g_2 : List (T2).T) (g_3 : List ((I).T × (I).T)) (r_ : T2.T) (y0 : Int) (y1 : List (T0).T) (y2 : Int) (y3 : Int) : St := ⟨mkS 93 [(6, .r (.v (.int .i64 y0))), (78, .r (.ro T0 y1)), (79, .r (.v (.int .i64 y2))), (80, .r (.v (.int .i64 y3)))], [(0, 0, .var 127 [.r (.v (.int .i64 g_0)), .r (.v (.int .i64 g_1)), .r (.ro T2 g_2), .own 1 0]), (1, 0, .map false I I g_3)]⟩
def f_u12_17 (k : Nat) (g_0 : Int) (g_1 : Int) (g_2 : List (T2).T) (g_3 : List ((I).T × (I).T)) (r_ : T2.T) : Nat → Int → List (T0).T → Int → Int → Option R_u12
  | 0, _, _, _, _ => none
  | j + 1, y0, y1, y2, y3 =>
  bif (decide (y3 < y2)) then
  if (0 ≤ y3) ∧ (y3 < (↑y1.length : Int)) then
  if ((f_u7 k (y1.getD y3.toNat T0.dflt)).isSome = true) then
  bif (decide ((v_u7 k (y1.getD y3.toNat T0.dflt)).2 ≥ y0)) then
  some 21
  else
  f_u12_17 k g_0 g_1 g_2 g_3 r_ j y0 y1 y2 ((IntKind.i64.wrap (y3 + 1)))
  else none
  else none
  else
  some 0
def f_u12 (k : Nat) (g_0 : Int) (g_1 : Int) (g_2 : List (T2).T) (g_3 : List ((I).T × (I).T)) (r_ : T2.T) : Option R_u12 :=
  bif (decide (r_.1 < (1 : Int)) || decide (r_.1 > (1000000 : Int))) then
  some 1
  else
  bif (r_.2.1 != (0 : Int)) then
  if ((r_.2.1 != (0 : Int)) = true) ∧ ((f_u13 k g_0 g_1 g_2 g_3 r_.2.1).isSome = true) then
  bif (true && (!v_u13 k g_0 g_1 g_2 g_3 r_.2.1)) then
  some 7
  else
  if ((f_u14 k g_0 g_1 g_2 g_3 r_.2.1).isSome = true) then
  bif (decide (r_.2.2.1 < (0 : Int)) || decide (r_.2.2.2.1 < (1 : Int)) || decide (r_.2.2.1 > (v_u14 k g_0 g_1 g_2 g_3 r_.2.1).1) || decide (r_.2.2.2.1 > IntKind.i64.wrap ((v_u14 k g_0 g_1 g_2 g_3 r_.2.1).1 - r_.2.2.1))) then
  some 20
  else
  if ((f_u18 k r_.2.2.2.2.2).isSome = true) then
  bif (v_u18 k r_.2.2.2.2.2 != (0 : Int)) then
  some (v_u18 k r_.2.2.2.2.2)
  else
  bif ((↑ (List.length r_.2.2.2.2.2) : Int) == (0 : Int)) then
  some 10
  else
  if ((f_u24 k r_.2.2.2.2.2).isSome = true) then
  bif (!v_u24 k r_.2.2.2.2.2) then
  some 12
  else
  f_u12_17 k g_0 g_1 g_2 g_3 r_ k ((v_u14 k g_0 g_1 g_2 g_3 r_.2.1).2) r_.2.2.2.2.2 ((↑ (List.length r_.2.2.2.2.2) : Int)) 0
  else none
  else none
  else none
  else none
  else
  if ((r_.2.1 != (0 : Int)) = false) then
  if ((f_u14 k g_0 g_1 g_2 g_3 r_.2.1).isSome = true) then
  bif (decide (r_.2.2.1 < (0 : Int)) || decide (r_.2.2.2.1 < (1 : Int)) || decide (r_.2.2.1 > (v_u14 k g_0 g_1 g_2 g_3 r_.2.1).1) || decide (r_.2.2.2.1 > IntKind.i64.wrap ((v_u14 k g_0 g_1 g_2 g_3 r_.2.1).1 - r_.2.2.1))) then
  some 20
  else
  if ((f_u18 k r_.2.2.2.2.2).isSome = true) then
  bif (v_u18 k r_.2.2.2.2.2 != (0 : Int)) then
  some (v_u18 k r_.2.2.2.2.2)
  else
  bif ((↑ (List.length r_.2.2.2.2.2) : Int) == (0 : Int)) then
  some 10
  else
  if ((f_u24 k r_.2.2.2.2.2).isSome = true) then
  bif (!v_u24 k r_.2.2.2.2.2) then
  some 12
  else
  f_u12_17 k g_0 g_1 g_2 g_3 r_ k ((v_u14 k g_0 g_1 g_2 g_3 r_.2.1).2) r_.2.2.2.2.2 ((↑ (List.length r_.2.2.2.2.2) : Int)) 0
  else none
  else none
  else none
  else none
def v_u12 (k : Nat) (g_0 : Int) (g_1 : Int) (g_2 : List (T2).T) (g_3 : List ((I).T × (I).T)) (r_ : T2.T) : R_u12 := (f_u12 k g_0 g_1 g_2 g_3 r_).getD 0
def ke_u12 (k : Nat) : Ke := (84, fun xs => match xs with
  | [.ptr _ _ _, _] => some [true, false]
  | _ => none, fun xs bs => match xs, bs with
  | [.ptr 0 0 0, .agg qr_], [.var 127 [.r (.v (.int .i64 g_0)), .r (.v (.int .i64 g_1)), .r (.ro tg_2_ qg_2), .own 1 0], .map false kg_3_ tg_3_ qg_3] => (decS [] T2 qr_).bind fun r_ => (castL tg_2_ T2 qg_2).bind fun g_2 => (castM kg_3_ tg_3_ I I qg_3).bind fun g_3 => some (.one (res_u12 (v_u12 k g_0 g_1 g_2 g_3 r_), bo_u12 g_0 g_1 g_2 g_3 r_ (v_u12 k g_0 g_1 g_2 g_3 r_)))
  | _, _ => none)
def K_u12 (k : Nat) : Calld := mkK [ke_u13 k, ke_u18 k, ke_u14 k, ke_u24 k, ke_u7 k]
def cs_u12 : List (Nat × List Cmd) := [(17, [.autoB [6, 78, 79, 80] false []])]
abbrev E_u12 (g_0 : Int) (g_1 : Int) (g_2 : List (T2).T) (g_3 : List ((I).T × (I).T)) (r_ : T2.T) (todo : List Item) (st : St) (o : Option R_u12) : Prop := ∀ r, o = some r → Ev Tryz.prog Tryz.f84 2 todo st (res_u12 r) (bo_u12 g_0 g_1 g_2 g_3 r_ r)
theorem ev_u12 (k : Nat) (g_0 : Int) (g_1 : Int) (g_2 : List (T2).T) (g_3 : List ((I).T × (I).T)) (r_ : T2.T) : ∀ j, (∀ (y0 : Int) (y1 : List (T0).T) (y2 : Int) (y3 : Int), E_u12 g_0 g_1 g_2 g_3 r_ (placeAt Tryz.f84 17) (st_u12_17 g_0 g_1 g_2 g_3 r_ y0 y1 y2 y3) (f_u12_17 k g_0 g_1 g_2 g_3 r_ j y0 y1 y2 y3))
  | 0 => fun _ _ _ _ _ h => (nomatch h)
  | j + 1 => by
    have ih := @ev_u12 k g_0 g_1 g_2 g_3 r_ j
    · intro y0 y1 y2 y3 r h
      rw [f_u12_17] at h
      exact go (K_u12 k) [] cs_u12 [.autoB [4] true []] (gT h (fun c h => gN2 h fun h => gN1 h (fun q => cc_u7 q) fun h => gT h (fun c h => gL h) fun c h => gC h 17 (ih _ _ _ _ _)) fun c h => gL h) (by kernel_rfl)
theorem of_u12 (k : Nat) (g_0 : Int) (g_1 : Int) (g_2 : List (T2).T) (g_3 : List ((I).T × (I).T)) (r_ : T2.T) (r : R_u12) (h : f_u12 k g_0 g_1 g_2 g_3 r_ = some r) : C_u12 g_0 g_1 g_2 g_3 r_ r := by
  refine CC.of (fn := Tryz.f84) (by kernel_rfl) (by kernel_rfl) (by kernel_rfl) (by kernel_rfl) ?_
  unfold f_u12 at h
  exact go (K_u12 k) [] cs_u12 [.autoB [4] true []] (gT h (fun c h => gL h) fun c h => gT h (fun c h => gN h (fun q => conjC q.1 (conjC (cc_u13 q.2) conj0)) fun h => gT h (fun c h => gL h) fun c h => gN1 h (fun q => cc_u14 q) fun h => gT h (fun c h => gL h) fun c h => gN1 h (fun q => cc_u18 q) fun h => gT h (fun c h => gL h) fun c h => gT h (fun c h => gL h) fun c h => gN1 h (fun q => cc_u24 q) fun h => gT h (fun c h => gL h) fun c h => gC h 17 ((ev_u12 k g_0 g_1 g_2 g_3 r_ k) _ _ _ _ _)) fun c h => gN1 h id fun h => gU2 h (.leaf (.r (.v (.int .i64 7))) [(0, .var 127 [.r (.v (.int .i64 g_0)), .r (.v (.int .i64 g_1)), .r (.ro T2 g_2), .own 1 0]), (0, .map false I I g_3)]) fun h => gN1 h (fun q => cc_u14 q) fun h => gT h (fun c h => gL h) fun c h => gN1 h (fun q => cc_u18 q) fun h => gT h (fun c h => gL h) fun c h => gT h (fun c h => gL h) fun c h => gN1 h (fun q => cc_u24 q) fun h => gT h (fun c h => gL h) fun c h => gC h 17 ((ev_u12 k g_0 g_1 g_2 g_3 r_ k) _ _ _ _ _)) (by kernel_rfl)
theorem cc_u12 {k : Nat} {g_0 : Int} {g_1 : Int} {g_2 : List (T2).T} {g_3 : List ((I).T × (I).T)} {r_ : T2.T} (h : (f_u12 k g_0 g_1 g_2 g_3 r_).isSome = true) : C_u12 g_0 g_1 g_2 g_3 r_ (v_u12 k g_0 g_1 g_2 g_3 r_) := ccG (Φ := C_u12 g_0 g_1 g_2 g_3 r_) h (of_u12 k g_0 g_1 g_2 g_3 r_)
abbrev RA_u9 : Type := Int
def resA_u9 (r : RA_u9) : AV := .tup [.r (.v (Value.pointer none)), .r (.v (.int .i64 r))]
def boA_u9 (l_ : List (T2).T) (web_ : T9.T) (r : RA_u9) : List (Nat × Blk) := []
abbrev RB_u9 : Type := Int × Int × Int × List (T2).T × (List ((I).T × (I).T))
def resB_u9 (r : RB_u9) : AV := .tup [.ptr 0 0 0, .r (.v (.int .i64 r.1))]
def boB_u9 (l_ : List (T2).T) (web_ : T9.T) (r : RB_u9) : List (Nat × Blk) := [(0, .var 127 [.r (.v (.int .i64 r.2.1)), .r (.v (.int .i64 r.2.2.1)), .r (.ro T2 r.2.2.2.1), .own 1 0]), (0, .map false I I r.2.2.2.2)]
abbrev R_u9 : Type := RA_u9 ⊕ RB_u9
def res_u9 (r : R_u9) : AV := match r with
  | .inl a => resA_u9 a
  | .inr a => resB_u9 a
def bo_u9 (l_ : List (T2).T) (web_ : T9.T) (r : R_u9) : List (Nat × Blk) := match r with
  | .inl a => boA_u9 l_ web_ a
  | .inr a => boB_u9 l_ web_ a
def args_u9 (l_ : List (T2).T) (web_ : T9.T) : List AV := [.r (.ro T2 l_), .agg (rvs (enc T9 web_))]
def bin_u9 (l_ : List (T2).T) (web_ : T9.T) : List Blk := []
abbrev C_u9 (l_ : List (T2).T) (web_ : T9.T) (r : R_u9) : Prop := CC Tryz.prog 63 (args_u9 l_ web_) (bin_u9 l_ web_) (res_u9 r) (bo_u9 l_ web_ r)
abbrev CA_u9 (l_ : List (T2).T) (web_ : T9.T) (r : RA_u9) : Prop := CC Tryz.prog 63 (args_u9 l_ web_) (bin_u9 l_ web_) (resA_u9 r) (boA_u9 l_ web_ r)
abbrev CB_u9 (l_ : List (T2).T) (web_ : T9.T) (r : RB_u9) : Prop := CC Tryz.prog 63 (args_u9 l_ web_) (bin_u9 l_ web_) (resB_u9 r) (boB_u9 l_ web_ r)
def st_u9_8 (y0 : List (T2).T) (y1 : Bool) (y2 : List (T2).T) (y3 : Int) (y4 : Int) (y5 : Int) (y6 : Int) (y7 : List (T2).T) (y8 : List ((I).T × (I).T)) : St := ⟨mkS 97 [(0, .r (.ro T2 y0)), (6, .ptr 1000000 0 0), (7, .r (.v (.bool y1))), (41, .r (.ro T2 y2)), (42, .r (.v (.int .i64 y3))), (43, .r (.v (.int .i64 y4)))], [(1000000, 0, .var 127 [.r (.v (.int .i64 y5)), .r (.v (.int .i64 y6)), .r (.ro T2 y7), .own 1000001 0]), (1000001, 0, .map false I I y8)]⟩
def st_u9_20 (y0 : List (T2).T) (y1 : List (T2).T) (y2 : Int) (y3 : Int) (y4 : Int) (y5 : Int) (y6 : List (T2).T) (y7 : List ((I).T × (I).T)) : St := ⟨mkS 97 [(0, .r (.ro T2 y0)), (6, .ptr 1000000 0 0), (67, .r (.ro T2 y1)), (68, .r (.v (.int .i64 y2))), (69, .r (.v (.int .i64 y3)))], [(1000000, 0, .var 127 [.r (.v (.int .i64 y4)), .r (.v (.int .i64 y5)), .r (.ro T2 y6), .own 1000001 0]), (1000001, 0, .map false I I y7)]⟩
def st_u9_23 (y0 : List (T2).T) (y1 : List (T2).T) (y2 : Int) (y3 : Int) (y4 : List (T2).T) (y5 : Int) (y6 : Int) (y7 : Int) (y8 : Int) (y9 : List (T2).T) (y10 : List ((I).T × (I).T)) (y11 : T2.T) : St := ⟨mkS 97 [(0, .r (.ro T2 y0)), (6, .ptr 1000000 0 0), (12, .ptr 1000002 0 0), (67, .r (.ro T2 y1)), (68, .r (.v (.int .i64 y2))), (69, .r (.v (.int .i64 y3))), (76, .r (.ro T2 y4)), (77, .r (.v (.int .i64 y5))), (78, .r (.v (.int .i64 y6)))], [(1000000, 0, .var 127 [.r (.v (.int .i64 y7)), .r (.v (.int .i64 y8)), .r (.ro T2 y9), .own 1000001 0]), (1000001, 0, .map false I I y10), (1000002, 0, .var 52 (rvs (enc T2 y11)))]⟩
mutual
def f_u9_8 (k : Nat) : Nat → List (T2).T → Bool → List (T2).T → Int → Int → Int → Int → List (T2).T → (List ((I).T × (I).T)) → Option R_u9
  | 0, _, _, _, _, _, _, _, _, _ => none
  | j + 1, y0, y1, y2, y3, y4, y5, y6, y7, y8 =>
  bif (decide (y4 < y3)) then
  if (0 ≤ y4) ∧ (y4 < (↑y2.length : Int)) then
  if ((f_u12 k y5 y6 y7 y8 (y2.getD y4.toNat T2.dflt)).isSome = true) then
  bif (v_u12 k y5 y6 y7 y8 (y2.getD y4.toNat T2.dflt) != (0 : Int)) then
  some ((.inl (v_u12 k y5 y6 y7 y8 (y2.getD y4.toNat T2.dflt))))
  else
  if ((f_u13 k y5 y6 y7 y8 (y2.getD y4.toNat T2.dflt).1).isSome = true) then
  bif (v_u13 k y5 y6 y7 y8 (y2.getD y4.toNat T2.dflt).1) then
  f_u9_8 k j y0 true y2 y3 ((IntKind.i64.wrap (y4 + 1))) y5 y6 y7 y8
  else
  f_u9_8 k j y0 y1 y2 y3 ((IntKind.i64.wrap (y4 + 1))) y5 y6 y7 ((mset I (y2.getD y4.toNat T2.dflt).1 y4 y8))
  else none
  else none
  else none
  else
  bif y1 then
  some ((.inl 6))
  else
  f_u9_20 k j y0 y0 ((↑y0.length : Int)) 0 y5 y6 y7 y8
def f_u9_20 (k : Nat) : Nat → List (T2).T → List (T2).T → Int → Int → Int → Int → List (T2).T → (List ((I).T × (I).T)) → Option R_u9
  | 0, _, _, _, _, _, _, _, _ => none
  | j + 1, y0, y1, y2, y3, y4, y5, y6, y7 =>
  bif (decide (y3 < y2)) then
  if (0 ≤ y3) ∧ (y3 < (↑y1.length : Int)) then
  if ((0 : Int) ≤ (0 : Int)) ∧ (0 ≤ y3) ∧ (y3 ≤ (↑y0.length : Int)) then
  f_u9_23 k j y0 y1 y2 y3 ((List.take (y3.toNat - Int.toNat 0) (List.drop (Int.toNat 0) y0))) ((↑ (List.take (y3.toNat - Int.toNat 0) (List.drop (Int.toNat 0) y0)).length : Int)) 0 y4 y5 y6 y7 ((y1.getD y3.toNat T2.dflt))
  else none
  else none
  else
  some ((.inr ((0, y4, y5, y6, y7))))
def f_u9_23 (k : Nat) : Nat → List (T2).T → List (T2).T → Int → Int → List (T2).T → Int → Int → Int → Int → List (T2).T → (List ((I).T × (I).T)) → T2.T → Option R_u9
  | 0, _, _, _, _, _, _, _, _, _, _, _, _ => none
  | j + 1, y0, y1, y2, y3, y4, y5, y6, y7, y8, y9, y10, y11 =>
  bif (decide (y6 < y5)) then
  if (0 ≤ y6) ∧ (y6 < (↑y4.length : Int)) then
  bif (y11.2.1 == (y4.getD y6.toNat T2.dflt).2.1) then
  if ((y11.2.1 == (y4.getD y6.toNat T2.dflt).2.1) = true) ∧ ((f_u10 k y11.2.2 (y4.getD y6.toNat T2.dflt).2.2).isSome = true) then
  bif (true && v_u10 k y11.2.2 (y4.getD y6.toNat T2.dflt).2.2) then
  some ((.inl 12))
  else
  f_u9_23 k j y0 y1 y2 y3 y4 y5 ((IntKind.i64.wrap (y6 + 1))) y7 y8 y9 y10 y11
  else none
  else
  if ((y11.2.1 == (y4.getD y6.toNat T2.dflt).2.1) = false) then
  f_u9_23 k j y0 y1 y2 y3 y4 y5 ((IntKind.i64.wrap (y6 + 1))) y7 y8 y9 y10 y11
  else none
  else none
  else
  f_u9_20 k j y0 y1 y2 ((IntKind.i64.wrap (y3 + 1))) y7 y8 y9 y10
end
def f_u9 (k : Nat) (l_ : List (T2).T) (web_ : T9.T) : Option R_u9 :=
  bif (decide (web_.1 < (1 : Int)) || decide (web_.1 > (12000 : Int)) || decide (web_.2 < (0 : Int)) || decide (web_.2 > (17179869184 : Int))) then
  some ((.inl 1))
  else
  bif (decide ((↑l_.length : Int) > (512 : Int))) then
  some ((.inl 8))
  else
  f_u9_8 k k l_ false l_ ((↑l_.length : Int)) 0 web_.1 web_.2 l_ ([])
def v_u9 (k : Nat) (l_ : List (T2).T) (web_ : T9.T) : R_u9 := (f_u9 k l_ web_).getD (.inl 0)
def vA_u9 (k : Nat) (l_ : List (T2).T) (web_ : T9.T) : RA_u9 := lft 0 (v_u9 k l_ web_)
def vB_u9 (k : Nat) (l_ : List (T2).T) (web_ : T9.T) : RB_u9 := rgt ((0, 0, 0, [], [])) (v_u9 k l_ web_)
def ke_u9 (k : Nat) : Ke := (63, fun xs => match xs with
  | [_, _] => some [false, false]
  | _ => none, fun xs bs => match xs, bs with
  | [.r (.ro tl__ ql_), .agg qweb_], [] => (castL tl__ T2 ql_).bind fun l_ => (decS [] T9 qweb_).bind fun web_ => some (.two (v_u9 k l_ web_).isLeft (resA_u9 (vA_u9 k l_ web_), boA_u9 l_ web_ (vA_u9 k l_ web_)) (resB_u9 (vB_u9 k l_ web_), boB_u9 l_ web_ (vB_u9 k l_ web_)))
  | _, _ => none)
def K_u9 (k : Nat) : Calld := mkK [ke_u13 k, ke_u12 k, ke_u10 k]
def cs_u9 : List (Nat × List Cmd) := [(8, [.autoB [0, 6, 7, 41, 42, 43] false []]), (20, [.autoB [0, 6, 67, 68, 69] false []]), (23, [.autoB [0, 6, 12, 67, 68, 69, 76, 77, 78] false []])]
abbrev E_u9 (l_ : List (T2).T) (web_ : T9.T) (todo : List Item) (st : St) (o : Option R_u9) : Prop := ∀ r, o = some r → Ev Tryz.prog Tryz.f63 0 todo st (res_u9 r) (bo_u9 l_ web_ r)
theorem ev_u9 (k : Nat) (l_ : List (T2).T) (web_ : T9.T) : ∀ j, (∀ (y0 : List (T2).T) (y1 : Bool) (y2 : List (T2).T) (y3 : Int) (y4 : Int) (y5 : Int) (y6 : Int) (y7 : List (T2).T) (y8 : List ((I).T × (I).T)), E_u9 l_ web_ (placeAt Tryz.f63 8) (st_u9_8 y0 y1 y2 y3 y4 y5 y6 y7 y8) (f_u9_8 k j y0 y1 y2 y3 y4 y5 y6 y7 y8)) ∧ (∀ (y0 : List (T2).T) (y1 : List (T2).T) (y2 : Int) (y3 : Int) (y4 : Int) (y5 : Int) (y6 : List (T2).T) (y7 : List ((I).T × (I).T)), E_u9 l_ web_ (placeAt Tryz.f63 20) (st_u9_20 y0 y1 y2 y3 y4 y5 y6 y7) (f_u9_20 k j y0 y1 y2 y3 y4 y5 y6 y7)) ∧ (∀ (y0 : List (T2).T) (y1 : List (T2).T) (y2 : Int) (y3 : Int) (y4 : List (T2).T) (y5 : Int) (y6 : Int) (y7 : Int) (y8 : Int) (y9 : List (T2).T) (y10 : List ((I).T × (I).T)) (y11 : T2.T), E_u9 l_ web_ (placeAt Tryz.f63 23) (st_u9_23 y0 y1 y2 y3 y4 y5 y6 y7 y8 y9 y10 y11) (f_u9_23 k j y0 y1 y2 y3 y4 y5 y6 y7 y8 y9 y10 y11))
  | 0 => ⟨fun _ _ _ _ _ _ _ _ _ _ h => (nomatch h), fun _ _ _ _ _ _ _ _ _ h => (nomatch h), fun _ _ _ _ _ _ _ _ _ _ _ _ _ h => (nomatch h)⟩
  | j + 1 => by
    have ih := @ev_u9 k l_ web_ j
    refine ⟨?_, ?_, ?_⟩
    · intro y0 y1 y2 y3 y4 y5 y6 y7 y8 r h
      rw [f_u9_8] at h
      exact go (K_u9 k) [] cs_u9 [.autoB [4, 5] true []] (gT h (fun c h => gN2 h fun h => gN1 h (fun q => cc_u12 q) fun h => gT h (fun c h => gL h) fun c h => gN1 h (fun q => cc_u13 q) fun h => gT h (fun c h => gC h 8 (ih.1 _ _ _ _ _ _ _ _ _ _)) fun c h => gC h 8 (ih.1 _ _ _ _ _ _ _ _ _ _)) fun c h => gT h (fun c h => gL h) fun c h => gC h 20 (ih.2.1 _ _ _ _ _ _ _ _ _)) (by kernel_rfl)
    · intro y0 y1 y2 y3 y4 y5 y6 y7 r h
      rw [f_u9_20] at h
      exact go (K_u9 k) [] cs_u9 [.autoB [4, 5] true []] (gT h (fun c h => gN2 h fun h => gN h (fun q => conjC q.1 (conjC q.2.1 (conjC q.2.2 conj0))) fun h => gC h 23 (ih.2.2 _ _ _ _ _ _ _ _ _ _ _ _ _)) fun c h => gL h) (by kernel_rfl)
    · intro y0 y1 y2 y3 y4 y5 y6 y7 y8 y9 y10 y11 r h
      rw [f_u9_23] at h
      exact go (K_u9 k) [] cs_u9 [.autoB [4, 5] true []] (gT h (fun c h => gN2 h fun h => gT h (fun c h => gN h (fun q => conjC q.1 (conjC (cc_u10 q.2) conj0)) fun h => gT h (fun c h => gL h) fun c h => gC h 23 (ih.2.2 _ _ _ _ _ _ _ _ _ _ _ _ _)) fun c h => gN1 h id fun h => gU2 h (.leaf (.tup [.r (.v (Value.pointer none)), .r (.v (.int .i64 12))]) []) fun h => gC h 23 (ih.2.2 _ _ _ _ _ _ _ _ _ _ _ _ _)) fun c h => gC h 20 (ih.2.1 _ _ _ _ _ _ _ _ _)) (by kernel_rfl)
theorem of_u9 (k : Nat) (l_ : List (T2).T) (web_ : T9.T) (r : R_u9) (h : f_u9 k l_ web_ = some r) : C_u9 l_ web_ r := by
  refine CC.of (fn := Tryz.f63) (by kernel_rfl) (by kernel_rfl) (by kernel_rfl) (by kernel_rfl) ?_
  unfold f_u9 at h
  exact go (K_u9 k) [] cs_u9 [.autoB [4, 5] true []] (gT h (fun c h => gL h) fun c h => gT h (fun c h => gL h) fun c h => gC h 8 ((ev_u9 k l_ web_ k).1 _ _ _ _ _ _ _ _ _ _)) (by kernel_rfl)
theorem cc_u9 {k : Nat} {l_ : List (T2).T} {web_ : T9.T} (h : (f_u9 k l_ web_).isSome = true) : C_u9 l_ web_ (v_u9 k l_ web_) := ccG (Φ := C_u9 l_ web_) h (of_u9 k l_ web_)
theorem ccA_u9 {k : Nat} {l_ : List (T2).T} {web_ : T9.T} (h : (f_u9 k l_ web_).isSome = true) (hb : (v_u9 k l_ web_).isLeft = true) : CA_u9 l_ web_ (vA_u9 k l_ web_) := ccAG (Φ := C_u9 l_ web_) (cc_u9 h) hb
theorem ccB_u9 {k : Nat} {l_ : List (T2).T} {web_ : T9.T} (h : (f_u9 k l_ web_).isSome = true) (hb : (v_u9 k l_ web_).isLeft = false) : CB_u9 l_ web_ (vB_u9 k l_ web_) := ccBG (Φ := C_u9 l_ web_) (cc_u9 h) hb

end
end Go.AM
