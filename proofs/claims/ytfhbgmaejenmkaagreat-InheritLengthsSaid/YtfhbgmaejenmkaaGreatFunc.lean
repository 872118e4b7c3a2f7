/- Contracts of the functions that the law reaches, and the plain law. -/
import Derived.Test.YtfhbgmaejenmkaaGreatFunb
set_option linter.unusedVariables false
set_option linter.unusedSimpArgs false
set_option linter.unusedSectionVars false
namespace Go.AM
open Go Go.Proofs

structure PtB (p : Pt) : Prop where
  a0 : 0 ≤ p.2.1
  a1 : p.2.1 ≤ 12000
  b0 : 0 ≤ p.2.2
  b1 : p.2.2 ≤ 17179869184
theorem single_one (r : Rn) (h : good r) (hc : chk [r] = 0) (hn : Nr (-1) [spn r]) : singleS [r] = true := by
  have e : nf ([r].map spn) = [spn r] := nf_self (spn_in (m := [r]) ⟨h, trivial⟩) hn
  unfold singleS
  rw [e, hc]
  have := h.lohi
  show (decide ((0 : Int) = 0) && ((hi r + 1 - lo r + 0) == r.2.1 + 0)) = true
  rw [beq_iff_eq.2 (by omega)]; rfl
/-! ### the cut from the web says where a point lies -/
def acrS (c : Ch) (x : Int) : Int := if c.2.2.1 = true then c.1 + c.2.1 - 1 - x else c.1 + x
theorem webS_root {l : List Ro} {p : Pt} (h : p.1 = 0) (n : Nat) : webS l n p = p := by
  cases n with
  | zero => rfl
  | succ n => unfold webS; rw [if_pos h]
theorem webS_step {l : List Ro} {p : Pt} {r : Ro} (h0 : p.1 ≠ 0) (e : look l p.1 = some r) (n : Nat) : webS l (n + 1) p = webS l n (placeS r p) := by
  rw [webS, if_neg h0, e]
structure CutIn (l : List Ro) (W L id : Int) (c : Ch) (n : Nat) : Prop where
  left : 0 ≤ c.1
  right : c.1 + c.2.1 ≤ W
  width : c.2.1 = (sizeS l W L id).1
  chk : Chk c.2.2.2
  len : lenS c.2.2.2 = (sizeS l W L id).2
  web : ∀ p : Pt, p.1 = id → On l W L p → webS l n p = (0, acrS c p.2.1, imgAt c.2.2.2 p.2.2)
theorem base_in {l : List Ro} {W L : Int} (reg : Reg l W L) (n : Nat) : CutIn l W L 0 (baseS W L) n := by
  have hw := reg.w
  have hl := reg.len
  have hs : sizeS l W L 0 = (W, L) := by unfold sizeS; rw [if_pos rfl]
  have hb : (baseS W L) = (0, W, false, if L > 0 then [(0, L, false)] else []) := rfl
  refine ⟨Int.le_refl _, by rw [hb]; show (0 : Int) + W ≤ W; omega, by rw [hs]; rfl, ?_, ?_, ?_⟩
  · rw [hb]
    show Chk (if L > 0 then [(0, L, false)] else [])
    by_cases h : L > 0
    · rw [if_pos h]
      exact ⟨by simp, ⟨⟨by show 1 ≤ L; omega, by show L ≤ _; omega, by show (0 : Int) ≤ 0; omega, by show (0 : Int) < _; omega, fun h => (by cases h), fun _ => by show (0 : Int) + L ≤ _; omega⟩, trivial⟩, by simp only [lenS]; omega⟩
    · rw [if_neg h]
      exact ⟨by simp, trivial, by simp only [lenS]; omega⟩
  · rw [hb, hs]
    show lenS (if L > 0 then [(0, L, false)] else []) = L
    by_cases h : L > 0
    · rw [if_pos h]; simp only [lenS]; omega
    · rw [if_neg h]; simp only [lenS]; omega
  · intro p h0 on
    obtain ⟨a0, a1, b0, b1⟩ := on
    rw [h0, hs] at a1 b1
    have b1 : p.2.2 < L := b1
    rw [webS_root h0, hb]
    show p = (0, acrS (0, W, false, _) p.2.1, imgAt (if L > 0 then [(0, L, false)] else []) p.2.2)
    rw [if_pos (by omega)]
    unfold imgAt acrS img
    rw [if_pos b1, if_neg (fun h => (by cases h)), if_neg (fun h => (by cases h))]
    show p = ((0 : Int), (0 : Int) + p.2.1, (0 : Int) + p.2.2)
    obtain ⟨p1, p2, p3⟩ := p
    have h0 : p1 = 0 := h0
    rw [h0, Int.zero_add, Int.zero_add]
theorem cutS_in {l : List Ro} {W L : Int} (reg : Reg l W L) : ∀ (n : Nat) (id : Int) (c : Ch), Anc l n id → cutS l W L n id = (c, 0) → CutIn l W L id c n := by
  intro n
  have hw := reg.w
  induction n with
  | zero =>
    intro id c ha hc
    by_cases h0 : id = 0
    · cases hc; rw [h0]; exact base_in reg 0
    · obtain ⟨_, _, e, _⟩ := ha.cases h0
      cases e
  | succ n ih =>
    intro id c ha hc
    by_cases h0 : id = 0
    · unfold cutS at hc
      rw [if_pos h0] at hc
      cases hc; rw [h0]; exact base_in reg _
    · obtain ⟨k, r, ek, e, a⟩ := ha.cases h0
      cases ek
      have ro := reg.ok.ro r (look_some e).1
      obtain ⟨c1, c2, c3, c4, c5, c6, c7⟩ := ro.cut
      unfold cutS at hc
      rw [if_neg h0, e] at hc
      have hc : cutJ r (cutS l W L n r.2.1) = (c, 0) := hc
      obtain ⟨oc, oe⟩ : ∃ oc, cutS l W L n r.2.1 = oc := ⟨_, rfl⟩
      rw [oe] at hc
      unfold cutJ at hc
      by_cases h1 : oc.2 = 0
      · rw [if_neg (fun h : oc.2 ≠ 0 => h h1)] at hc
        obtain ⟨i1, i2, i3, i4, i5, i6⟩ := ih r.2.1 oc.1 a (by rw [oe, ← h1])
        obtain ⟨cm, ce⟩ : ∃ cm, comp r.2.2.2.2.2 oc.1.2.2.2 = cm := ⟨_, rfl⟩
        rw [ce] at hc
        by_cases h2 : cm.2 = 0
        · rw [if_neg (fun h : cm.2 ≠ 0 => h h2)] at hc
          obtain ⟨_, _, _, k1, k2, k3⟩ := comp_spec (m := cm.1) (by rw [ce, ← h2])
          have hs := reg.small n r.2.1 a
          rw [wrap_id (i := oc.1.1 + oc.1.2.1) (by omega) (by omega), wrap_id (i := oc.1.1 + oc.1.2.1 - r.2.2.1) (by omega) (by omega), wrap_id (i := oc.1.1 + oc.1.2.1 - r.2.2.1 - r.2.2.2.1) (by omega) (by omega), wrap_id (i := oc.1.1 + r.2.2.1) (by omega) (by omega)] at hc
          have hc1 := congrArg Prod.fst hc
          have hc1 : ((if oc.1.2.2.1 = true then oc.1.1 + oc.1.2.1 - r.2.2.1 - r.2.2.2.1 else oc.1.1 + r.2.2.1), r.2.2.2.1, !(oc.1.2.2.1 == r.2.2.2.2.1), cm.1) = c := hc1
          subst hc1
          have hsz := size_some (W := W) (L := L) h0 e
          refine ⟨?_, ?_, ?_, k1, ?_, ?_⟩
          · show 0 ≤ (if oc.1.2.2.1 = true then _ else _ : Int)
            split <;> omega
          · show (if oc.1.2.2.1 = true then _ else _ : Int) + r.2.2.2.1 ≤ W
            split <;> omega
          · rw [hsz]
          · rw [hsz]; exact k2
          · intro p hp on
            have on2 := on.place (by rw [hp]; exact h0) (by rw [hp]; exact e) ro
            rw [webS_step (by rw [hp]; exact h0) (by rw [hp]; exact e), i6 (placeS r p) rfl on2]
            obtain ⟨a0, a1, b0, b1⟩ := on
            rw [hp, hsz] at a1 b1
            have b1 : p.2.2 < lenS r.2.2.2.2.2 := b1
            have e3 : imgAt oc.1.2.2.2 (placeS r p).2.2 = imgAt cm.1 p.2.2 := (k3 p.2.2 b0 b1).symm
            rw [e3]
            have e4 : acrS oc.1 (placeS r p).2.1 = acrS ((if oc.1.2.2.1 = true then oc.1.1 + oc.1.2.1 - r.2.2.1 - r.2.2.2.1 else oc.1.1 + r.2.2.1), r.2.2.2.1, !(oc.1.2.2.1 == r.2.2.2.2.1), cm.1) p.2.1 := by
              unfold acrS placeS
              cases oc.1.2.2.1 <;> cases r.2.2.2.2.1 <;> simp <;> omega
            rw [e4]
        · rw [if_pos h2] at hc
          exact absurd (congrArg Prod.snd hc) h2
      · rw [if_pos h1] at hc
        exact absurd (congrArg Prod.snd hc) h1
/-! ### how many integers lie in a set -/
def cnt (P : Int → Bool) : Nat → Nat
  | 0 => 0
  | n + 1 => cnt P n + (if P (n : Int) = true then 1 else 0)
theorem cnt_congr {P Q : Int → Bool} : ∀ n : Nat, (∀ x : Int, 0 ≤ x → x < n → P x = Q x) → cnt P n = cnt Q n
  | 0, _ => rfl
  | n + 1, h => by
    unfold cnt
    rw [cnt_congr n (fun x h0 h1 => h x h0 (by omega)), h n (by omega) (by omega)]
theorem cnt_or (P Q : Int → Bool) : ∀ n, cnt (fun x => P x || Q x) n + cnt (fun x => P x && Q x) n = cnt P n + cnt Q n
  | 0 => rfl
  | n + 1 => by
    have := cnt_or P Q n
    unfold cnt
    cases h1 : P (n : Int) <;> cases h2 : Q (n : Int) <;> simp only [Bool.or_true, Bool.or_false, Bool.and_true, Bool.and_false, Bool.false_eq_true, if_true, if_false] <;> omega
theorem cnt_false {P : Int → Bool} : ∀ n : Nat, (∀ x : Int, 0 ≤ x → x < n → P x = false) → cnt P n = 0
  | 0, _ => rfl
  | n + 1, h => by
    unfold cnt
    rw [cnt_false n (fun x h0 h1 => h x h0 (by omega)), h n (by omega) (by omega)]
    rfl
theorem cnt_seg (a b : Int) (h0 : 0 ≤ a) (hab : a ≤ b) : ∀ n : Nat, (cnt (fun x => decide (a ≤ x) && decide (x < b)) n : Int) = max 0 (min b n - a)
  | 0 => by unfold cnt; omega
  | n + 1 => by
    have := cnt_seg a b h0 hab n
    unfold cnt
    by_cases h1 : a ≤ (n : Int)
    · by_cases h2 : (n : Int) < b
      · rw [decide_eq_true h1, decide_eq_true h2]
        simp only [Bool.and_self, if_true]
        omega
      · rw [decide_eq_false h2, Bool.and_false, if_neg Bool.false_ne_true]
        omega
    · rw [decide_eq_false h1, Bool.false_and, if_neg Bool.false_ne_true]
      omega
/-- membership in spans, as a test -/
def hasT (l : List Sp) (x : Int) : Bool := l.any fun s => decide (s.1 ≤ x) && decide (x < s.2)
theorem hasT_cons (s : Sp) (l : List Sp) : hasT (s :: l) = fun x => (decide (s.1 ≤ x) && decide (x < s.2)) || hasT l x := by
  funext x; unfold hasT; rw [List.any_cons]
/-- the integers of a normal form -/
theorem tot_cnt {N : Nat} : ∀ (l : List Sp) (m : Int), Nr m l → -1 ≤ m → (∀ s ∈ l, s.2 ≤ N) → tot l = (cnt (hasT l) N : Int)
  | [], m, _, _, _ => by
    rw [cnt_false (P := hasT []) N (fun x _ _ => rfl)]; rfl
  | s :: t, m, h, hm, hb => by
    obtain ⟨h1, h2, h3⟩ := h
    have ih := tot_cnt t s.2 h3 (by omega) (fun q hq => hb q (by simp [hq]))
    have hor := cnt_or (fun x => decide (s.1 ≤ x) && decide (x < s.2)) (hasT t) N
    have hbs := hb s (by simp)
    have hz : cnt (fun x => (decide (s.1 ≤ x) && decide (x < s.2)) && hasT t x) N = 0 := cnt_false N fun x h0 hx => by
      by_cases hc : x < s.2
      · have : hasT t x = false := by
          have : ∀ (t : List Sp) (m : Int), Nr m t → x < m → hasT t x = false := fun t => by
            induction t with
            | nil => intros; rfl
            | cons u v ih =>
              intro m hn hx
              obtain ⟨g1, g2, g3⟩ := hn
              rw [hasT_cons]
              show ((decide (u.1 ≤ x) && decide (x < u.2)) || hasT v x) = false
              rw [decide_eq_false (by omega), ih u.2 g3 (by omega)]; rfl
          exact this t s.2 h3 hc
        show ((decide (s.1 ≤ x) && decide (x < s.2)) && hasT t x) = false
        rw [this, Bool.and_false]
      · show ((decide (s.1 ≤ x) && decide (x < s.2)) && hasT t x) = false
        rw [decide_eq_false hc, Bool.and_false, Bool.false_and]
    have hs := cnt_seg s.1 s.2 (by omega) (by omega) N
    rw [hasT_cons]
    show s.2 - s.1 + tot t = _
    omega
theorem hasT_iff (l : List Sp) (x : Int) : hasT l x = true ↔ has l x := by
  rw [has_iff]
  unfold hasT
  simp only [List.any_eq_true, Bool.and_eq_true, decide_eq_true_eq]
/-- the integers of the images of a map -/
def imT (m : List Rn) (x : Int) : Bool := hasT (m.map spn) x
abbrev NN : Nat := 17179869184
theorem single_cnt {m : List Rn} (h : singleS m = true) : Chk m ∧ (cnt (imT m) NN : Int) = lenS m := by
  unfold singleS at h
  rw [Bool.and_eq_true, decide_eq_true_eq, beq_iff_eq] at h
  have hc := chk_zero.1 h.1
  have hi := spn_in hc.goods
  refine ⟨hc, ?_⟩
  rw [← h.2, tot_cnt (N := NN) (nf (m.map spn)) (-1) (nf_nr hi) (by omega) (fun s hs => ((nf_in hi).mem s hs).2.2)]
  refine congrArg Int.ofNat (cnt_congr NN fun x _ _ => ?_)
  have h1 := nf_has hi x
  have h2 := hasT_iff (nf (m.map spn)) x
  have h3 := hasT_iff (m.map spn) x
  unfold imT
  cases e : hasT (m.map spn) x <;> cases e2 : hasT (nf (m.map spn)) x <;> simp_all
/-! ### areas -/
theorem cnt_mono {P Q : Int → Bool} (n : Nat) (h : ∀ x : Int, 0 ≤ x → x < n → P x = true → Q x = true) : cnt P n ≤ cnt Q n := by
  induction n with
  | zero => exact Nat.le_refl _
  | succ n ih =>
    have := ih fun x h0 h1 => h x h0 (by omega)
    have h2 := h n (by omega) (by omega)
    unfold cnt
    cases h3 : P (n : Int)
    · simp only [Bool.false_eq_true, if_false]; split <;> omega
    · rw [h2 h3]; simp only [if_true]; omega
def covT (c : Ch) (x : Int) : Bool := decide (c.1 ≤ x) && decide (x < c.1 + c.2.1)
def colS : List Ro → Int → Int
  | [], _ => 0
  | r :: t, x => (if covT r.2.2 x = true then lenS r.2.2.2.2.2 else 0) + colS t x
def uniT : List Ro → Int → Int → Bool
  | [], _, _ => false
  | r :: t, x, z => (covT r.2.2 x && imT r.2.2.2.2.2 z) || uniT t x z
theorem imT_iff {m : List Rn} {z : Int} : imT m z = true ↔ ∃ r ∈ m, lo r ≤ z ∧ z ≤ Go.AM.hi r := by
  unfold imT
  rw [hasT_iff, has_iff]
  constructor
  · rintro ⟨s, hs, h0, h1⟩
    obtain ⟨r, hr, rfl⟩ := List.mem_map.1 hs
    exact ⟨r, hr, h0, by have : z < Go.AM.hi r + 1 := h1; omega⟩
  · rintro ⟨r, hr, h0, h1⟩
    exact ⟨spn r, List.mem_map_of_mem hr, h0, by show z < Go.AM.hi r + 1; omega⟩
/-- cuts that are apart share no point -/
theorem apart_of {a b : Ch} {x z : Int} (h : ovlS a b = false) (ha : covT a x = true) (hb : covT b x = true) (ia : imT a.2.2.2 z = true) (ib : imT b.2.2.2 z = true) : False := by
  obtain ⟨r, hr, r0, r1⟩ := imT_iff.1 ia
  obtain ⟨s, hs, s0, s1⟩ := imT_iff.1 ib
  unfold covT at ha hb
  rw [Bool.and_eq_true, decide_eq_true_eq, decide_eq_true_eq] at ha hb
  have hm : meetS a.2.2.2 b.2.2.2 = true := by
    unfold meetS
    rw [List.any_eq_true]
    refine ⟨r, hr, ?_⟩
    rw [List.any_eq_true]
    refine ⟨s, hs, ?_⟩
    rw [decide_eq_true (by omega), decide_eq_true (by omega)]; rfl
  unfold ovlS at h
  rw [hm, decide_eq_true (by omega), decide_eq_true (by omega)] at h
  cases h
theorem col_cnt (x : Int) : ∀ (C : List Ro), (∀ r ∈ C, singleS r.2.2.2.2.2 = true) → C.Pairwise (fun b r => ovlS r.2.2 b.2.2 = false) → (cnt (uniT C x) NN : Int) = colS C x := by
  intro C
  induction C with
  | nil =>
    intro _ _
    rw [cnt_false (P := uniT [] x) NN (fun x _ _ => rfl)]; rfl
  | cons r t ih =>
    intro hs hp
    obtain ⟨h1, h2⟩ := List.pairwise_cons.1 hp
    have ih := ih (fun q hq => hs q (by simp [hq])) h2
    have hsr := (single_cnt (hs r (by simp))).2
    have hor := cnt_or (fun z => covT r.2.2 x && imT r.2.2.2.2.2 z) (uniT t x) NN
    have hz : cnt (fun z => (covT r.2.2 x && imT r.2.2.2.2.2 z) && uniT t x z) NN = 0 := cnt_false NN fun z _ _ => by
      cases hc : covT r.2.2 x
      · rfl
      · cases hi : imT r.2.2.2.2.2 z
        · rfl
        · have : ∀ (t : List Ro), (∀ a' ∈ t, ovlS a'.2.2 r.2.2 = false) → uniT t x z = false := fun t => by
            induction t with
            | nil => intro _; rfl
            | cons u v ih =>
              intro h
              unfold uniT
              rw [ih fun q hq => h q (by simp [hq]), Bool.or_false]
              cases hu : covT u.2.2 x
              · rfl
              · cases hv : imT u.2.2.2.2.2 z
                · rfl
                · exact (apart_of (h u (by simp)) hu hc hv hi).elim
          show (true && uniT t x z) = false
          rw [this t h1]; rfl
    have e : uniT (r :: t) x = fun z => (covT r.2.2 x && imT r.2.2.2.2.2 z) || uniT t x z := rfl
    rw [e, colS]
    cases hc : covT r.2.2 x
    · rw [hc] at hor hz
      have h0 : cnt (fun z => false && imT r.2.2.2.2.2 z) NN = 0 := cnt_false NN fun _ _ _ => rfl
      simp only [Bool.false_eq_true, if_false]
      omega
    · rw [hc] at hor hz
      have h0 : cnt (fun z => true && imT r.2.2.2.2.2 z) NN = cnt (imT r.2.2.2.2.2) NN := cnt_congr NN fun x _ _ => Bool.true_and _
      simp only [if_true]
      omega
theorem col_le {C : List Ro} {n : Int} (x : Int) (h0 : 0 ≤ n) (hn : n ≤ 17179869184) (hs : ∀ r ∈ C, singleS r.2.2.2.2.2 = true) (hp : C.Pairwise (fun b r => ovlS r.2.2 b.2.2 = false)) (hf : ∀ r ∈ C, fitsIn n r.2.2.2.2.2) (hg : ∀ r ∈ C, goods r.2.2.2.2.2) : colS C x ≤ n := by
  rw [← col_cnt x C hs hp]
  have h1 : cnt (uniT C x) NN ≤ cnt (fun z => decide (0 ≤ z) && decide (z < n)) NN := cnt_mono NN fun z z0 z1 hu => by
    have : ∀ (C : List Ro), (∀ r ∈ C, fitsIn n r.2.2.2.2.2) → uniT C x z = true → z < n := fun C => by
      induction C with
      | nil => intro _ h; cases h
      | cons r t ih =>
        intro hf h
        unfold uniT at h
        rw [Bool.or_eq_true] at h
        rcases h with h | h
        · rw [Bool.and_eq_true] at h
          obtain ⟨q, hq, q0, q1⟩ := imT_iff.1 h.2
          have := fits_mem (hf r (by simp)) q hq
          omega
        · exact ih (fun q hq => hf q (by simp [hq])) h
    rw [decide_eq_true z0, decide_eq_true (this C hf hu)]; rfl
  have h2 := cnt_seg 0 n (by omega) h0 NN
  omega
def sumc (f : Int → Int) : Nat → Int
  | 0 => 0
  | n + 1 => sumc f n + f n
theorem sumc_add (f g : Int → Int) : ∀ n, sumc (fun x => f x + g x) n = sumc f n + sumc g n
  | 0 => rfl
  | n + 1 => by
    have := sumc_add f g n
    unfold sumc; omega
theorem sumc_zero : ∀ n, sumc (fun _ => 0) n = 0
  | 0 => rfl
  | n + 1 => by
    have := sumc_zero n
    unfold sumc; omega
theorem sumc_le {f : Int → Int} {m : Int} (h : ∀ x, f x ≤ m) : ∀ n : Nat, sumc f n ≤ n * m
  | 0 => by unfold sumc; simp
  | n + 1 => by
    have := sumc_le h n
    have h2 := h n
    unfold sumc
    rw [show ((n + 1 : Nat) : Int) = (n : Int) + 1 from rfl, Int.add_mul, Int.one_mul]
    omega
theorem sumc_ind (P : Int → Bool) (v : Int) : ∀ n, sumc (fun x => if P x = true then v else 0) n = (cnt P n : Int) * v
  | 0 => by unfold sumc cnt; simp
  | n + 1 => by
    have := sumc_ind P v n
    unfold sumc cnt
    cases h : P (n : Int)
    · simp only [Bool.false_eq_true, if_false]; rw [this]; simp
    · simp only [if_true]
      rw [show ((cnt P n + 1 : Nat) : Int) = (cnt P n : Int) + 1 from rfl, Int.add_mul, Int.one_mul, this]
def areaS : List Ro → Int
  | [] => 0
  | r :: t => r.2.2.2.1 * lenS r.2.2.2.2.2 + areaS t
theorem area_col (w : Nat) : ∀ (C : List Ro), (∀ r ∈ C, 0 ≤ r.2.2.1 ∧ 1 ≤ r.2.2.2.1 ∧ r.2.2.1 + r.2.2.2.1 ≤ w) → sumc (colS C) w = areaS C
  | [], _ => sumc_zero w
  | r :: t, h => by
    have ih := area_col w t fun q hq => h q (by simp [hq])
    obtain ⟨a, b, c⟩ := h r (by simp)
    have e : colS (r :: t) = fun x => (if covT r.2.2 x = true then lenS r.2.2.2.2.2 else 0) + colS t x := rfl
    have h1 := cnt_seg r.2.2.1 (r.2.2.1 + r.2.2.2.1) a (by omega) w
    have h2 : (cnt (covT r.2.2) w : Int) = r.2.2.2.1 := by
      show (cnt (fun x => decide (r.2.2.1 ≤ x) && decide (x < r.2.2.1 + r.2.2.2.1)) w : Int) = _
      omega
    rw [e, sumc_add, sumc_ind, h2, ih]; rfl
/-- the area of cuts that are apart -/
theorem area_le {C : List Ro} {w n : Int} (hw : 0 ≤ w) (h0 : 0 ≤ n) (hn : n ≤ 17179869184) (hc : ∀ r ∈ C, CutOk r.2.2 w n) (hp : C.Pairwise (fun b r => ovlS r.2.2 b.2.2 = false)) : areaS C ≤ w * n := by
  obtain ⟨w, rfl⟩ : ∃ q : Nat, w = q := ⟨w.toNat, by omega⟩
  rw [← area_col w C fun r hr => ⟨(hc r hr).left, (hc r hr).width, (hc r hr).right⟩]
  exact sumc_le (fun x => col_le x h0 hn (fun r hr => (hc r hr).single) hp (fun r hr => (hc r hr).fits) (fun r hr => (hc r hr).chk.goods)) w
theorem Okp.pairs {W L : Int} {l : List Ro} (h : Okp W L l) : l.Pairwise (fun b r => r.2.1 = b.2.1 → ovlS r.2.2 b.2.2 = false) := by
  induction h with
  | nil => exact List.Pairwise.nil
  | snoc p r h f n c ih =>
    refine List.pairwise_append.2 ⟨ih, List.pairwise_singleton _ _, fun b hb q hq e => ?_⟩
    rw [List.mem_singleton] at hq
    subst hq
    unfold clash at c
    rw [List.any_eq_false] at c
    have := c b hb
    rw [beq_iff_eq.2 e, Bool.true_and] at this
    simpa using this
def kids (l : List Ro) (id : Int) : List Ro := l.filter fun r => r.2.1 == id
theorem Reg.area {l : List Ro} {W L id : Int} (reg : Reg l W L) (kn : id = 0 ∨ ∃ q, look l id = some q) : areaS (kids l id) ≤ (sizeS l W L id).1 * (sizeS l W L id).2 := by
  have hs := reg.small 512 id (reg.anc kn)
  refine area_le hs.1 hs.2.2.1 hs.2.2.2 (fun r hr => ?_) ?_
  · obtain ⟨h1, h2⟩ := List.mem_filter.1 hr
    have := (reg.ok.ro r h1).cut
    rw [beq_iff_eq.1 h2] at this
    exact this
  · have h := reg.ok.pairs.sublist (List.filter_sublist (p := fun r => r.2.1 == id))
    refine h.imp_of_mem fun {a b} ha hb q => q ?_
    have h1 := beq_iff_eq.1 (List.mem_filter.1 ha).2
    have h2 := beq_iff_eq.1 (List.mem_filter.1 hb).2
    rw [h1, h2]
end Go.AM
namespace Go.AM
open Go

/-! ### parts of maps, and what lies in a span -/
def partS (m : List Rn) (s : Sp) : List Rn × Int := if chk m ≠ 0 then ([], chk m) else if s.1 < 0 ∨ s.1 > s.2 ∨ s.2 > lenS m then ([], 1) else (adds [] (pieces m s.1 s.2), 0)
def fndS : List Rn → Int → Sp → List Sp
  | [], _, _ => []
  | r :: t, at_, s => (if max (lo r) s.1 < min (hi r + 1) s.2 then [(at_ + (if r.2.2 = true then hi r + 1 - min (hi r + 1) s.2 else max (lo r) s.1 - lo r), at_ + (if r.2.2 = true then hi r + 1 - min (hi r + 1) s.2 else max (lo r) s.1 - lo r) + min (hi r + 1) s.2 - max (lo r) s.1)] else []) ++ fndS t (at_ + r.2.1) s
theorem fndS_len : ∀ (m : List Rn) (a : Int) (s : Sp), (fndS m a s).length ≤ m.length
  | [], _, _ => by simp [fndS]
  | r :: t, a, s => by
    have := fndS_len t (a + r.2.1) s
    unfold fndS
    rw [List.length_append, List.length_cons]
    split <;> simp <;> omega
/-- each span lies where its run lies -/
theorem fndS_in : ∀ (m : List Rn) (a : Int) (s : Sp), goods m → ∀ x ∈ fndS m a s, a ≤ x.1 ∧ x.1 < x.2 ∧ x.2 ≤ a + lenS m
  | [], _, _, _, x, hx => by simp [fndS] at hx
  | r :: t, a, s, ⟨g1, g2⟩, x, hx => by
    obtain ⟨l1, l2, l3, l4⟩ := g1.lohi
    have h0 := lenS_nonneg g2
    rw [lenS]
    unfold fndS at hx
    rcases List.mem_append.1 hx with hx | hx
    · by_cases h : max (lo r) s.1 < min (hi r + 1) s.2
      · rw [if_pos h, List.mem_singleton] at hx
        subst hx
        show a ≤ a + _ ∧ a + _ < a + _ + min (hi r + 1) s.2 - max (lo r) s.1 ∧ a + _ + min (hi r + 1) s.2 - max (lo r) s.1 ≤ _
        split <;> omega
      · rw [if_neg h] at hx; simp at hx
    · have := fndS_in t (a + r.2.1) s g2 x hx
      have := g1.1
      omega
def findS (m : List Rn) (s : Sp) : List Sp × Int := if chk m ≠ 0 then ([], chk m) else if s.1 < 0 ∨ s.1 > s.2 ∨ s.2 > 17179869184 then ([], 1) else (nf (fndS m 0 s), 0)
end Go.AM
namespace Go.AM
open Go Go.Proofs
noncomputable section
abbrev R_u83 : Type := Int
def res_u83 (r : R_u83) : AV := .r (.v (.int .i64 r))
def bo_u83 (r_ : T3.T) (r : R_u83) : List (Nat × Blk) := []
def args_u83 (r_ : T3.T) : List AV := [.agg (rvs (enc T3 r_))]
def bin_u83 (r_ : T3.T) : List Blk := []
abbrev C_u83 (r_ : T3.T) (r : R_u83) : Prop := CC Tryz.prog 29 (args_u83 r_) (bin_u83 r_) (res_u83 r) (bo_u83 r_ r)
def f_u83 (k : Nat) (r_ : T3.T) : Option R_u83 :=
  bif (decide (r_.1 < (0 : Int)) || decide (r_.1 > r_.2.1) || decide (r_.2.1 > (12000 : Int)) || decide (r_.2.2.1 < (0 : Int)) || decide (r_.2.2.1 > r_.2.2.2) || decide (r_.2.2.2 > (17179869184 : Int))) then
  some 1
  else
  some 0
def v_u83 (k : Nat) (r_ : T3.T) : R_u83 := (f_u83 k r_).getD 0
def ke_u83 (k : Nat) : Ke := (29, fun xs => match xs with
  | [_] => some [false]
  | _ => none, fun xs bs => match xs, bs with
  | [.agg qr_], [] => (decS [] T3 qr_).bind fun r_ => some (.one (res_u83 (v_u83 k r_), bo_u83 r_ (v_u83 k r_)))
  | _, _ => none)
theorem of_u83 (k : Nat) (r_ : T3.T) (r : R_u83) (h : f_u83 k r_ = some r) : C_u83 r_ r := by
  refine CC.of (fn := Tryz.f29) (by kernel_rfl) (by kernel_rfl) (by kernel_rfl) (by kernel_rfl) ?_
  unfold f_u83 at h
  exact go (mkK []) [] [] [.autoB [2] true []] (gT h (fun c h => gL h) fun c h => gL h) (by kernel_rfl)
theorem cc_u83 {k : Nat} {r_ : T3.T} (h : (f_u83 k r_).isSome = true) : C_u83 r_ (v_u83 k r_) := ccG (Φ := C_u83 r_) h (of_u83 k r_)
abbrev R_u63 : Type := Int
def res_u63 (r : R_u63) : AV := .r (.v (.int .i64 r))
def bo_u63 (r_ : T3.T) (r : R_u63) : List (Nat × Blk) := []
def args_u63 (r_ : T3.T) : List AV := [.agg (rvs (enc T3 r_))]
def bin_u63 (r_ : T3.T) : List Blk := []
abbrev C_u63 (r_ : T3.T) (r : R_u63) : Prop := CC Tryz.prog 33 (args_u63 r_) (bin_u63 r_) (res_u63 r) (bo_u63 r_ r)
def f_u63 (k : Nat) (r_ : T3.T) : Option R_u63 :=
  bif (decide (r_.1 < (0 : Int)) || decide (r_.1 > r_.2.1) || decide (r_.2.1 > (12000 : Int)) || decide (r_.2.2.1 < (0 : Int)) || decide (r_.2.2.1 > r_.2.2.2) || decide (r_.2.2.2 > (17179869184 : Int))) then
  some 1
  else
  some 0
def v_u63 (k : Nat) (r_ : T3.T) : R_u63 := (f_u63 k r_).getD 0
def ke_u63 (k : Nat) : Ke := (33, fun xs => match xs with
  | [_] => some [false]
  | _ => none, fun xs bs => match xs, bs with
  | [.agg qr_], [] => (decS [] T3 qr_).bind fun r_ => some (.one (res_u63 (v_u63 k r_), bo_u63 r_ (v_u63 k r_)))
  | _, _ => none)
theorem of_u63 (k : Nat) (r_ : T3.T) (r : R_u63) (h : f_u63 k r_ = some r) : C_u63 r_ r := by
  refine CC.of (fn := Tryz.f33) (by kernel_rfl) (by kernel_rfl) (by kernel_rfl) (by kernel_rfl) ?_
  unfold f_u63 at h
  exact go (mkK []) [] [] [.autoB [2] true []] (gT h (fun c h => gL h) fun c h => gL h) (by kernel_rfl)
theorem cc_u63 {k : Nat} {r_ : T3.T} (h : (f_u63 k r_).isSome = true) : C_u63 r_ (v_u63 k r_) := ccG (Φ := C_u63 r_) h (of_u63 k r_)
abbrev R_u0 : Type := Int
def res_u0 (r : R_u0) : AV := .r (.v (.int .i64 r))
def bo_u0 (l_ : List (T4).T) (r : R_u0) : List (Nat × Blk) := []
def args_u0 (l_ : List (T4).T) : List AV := [.r (.ro T4 l_)]
def bin_u0 (l_ : List (T4).T) : List Blk := []
abbrev C_u0 (l_ : List (T4).T) (r : R_u0) : Prop := CC Tryz.prog 21 (args_u0 l_) (bin_u0 l_) (res_u0 r) (bo_u0 l_ r)
def st_u0_4 (y0 : List (T4).T) (y1 : Int) (y2 : Int) : St := ⟨mkS 58 [(9, .r (.ro T4 y0)), (10, .r (.v (.int .i64 y1))), (11, .r (.v (.int .i64 y2)))], []⟩
def f_u0_4 (k : Nat) : Nat → List (T4).T → Int → Int → Option R_u0
  | 0, _, _, _ => none
  | j + 1, y0, y1, y2 =>
  bif (decide (y2 < y1)) then
  if (0 ≤ y2) ∧ (y2 < (↑y0.length : Int)) then
  if ((f_u83 k (y0.getD y2.toNat T4.dflt).1).isSome = true) then
  bif (v_u83 k (y0.getD y2.toNat T4.dflt).1 != (0 : Int)) then
  some (v_u83 k (y0.getD y2.toNat T4.dflt).1)
  else
  bif ((y0.getD y2.toNat T4.dflt).1.1 == (y0.getD y2.toNat T4.dflt).1.2.1 || (y0.getD y2.toNat T4.dflt).1.2.2.1 == (y0.getD y2.toNat T4.dflt).1.2.2.2) then
  some 10
  else
  bif (decide ((y0.getD y2.toNat T4.dflt).2.1 < (1 : Int)) || decide ((y0.getD y2.toNat T4.dflt).2.1 > (16 : Int)) || decide ((y0.getD y2.toNat T4.dflt).2.2 < (1 : Int)) || decide ((y0.getD y2.toNat T4.dflt).2.2 > (100 : Int))) then
  some 1
  else
  f_u0_4 k j y0 y1 ((IntKind.i64.wrap (y2 + 1)))
  else none
  else none
  else
  some 0
def f_u0 (k : Nat) (l_ : List (T4).T) : Option R_u0 :=
  bif (decide ((↑l_.length : Int) > (128 : Int))) then
  some 8
  else
  f_u0_4 k k l_ ((↑l_.length : Int)) 0
def v_u0 (k : Nat) (l_ : List (T4).T) : R_u0 := (f_u0 k l_).getD 0
def ke_u0 (k : Nat) : Ke := (21, fun xs => match xs with
  | [_] => some [false]
  | _ => none, fun xs bs => match xs, bs with
  | [.r (.ro tl__ ql_)], [] => (castL tl__ T4 ql_).bind fun l_ => some (.one (res_u0 (v_u0 k l_), bo_u0 l_ (v_u0 k l_)))
  | _, _ => none)
def cs_u0 : List (Nat × List Cmd) := [(4, [.autoB [9, 10, 11] false []])]
abbrev E_u0 (l_ : List (T4).T) (todo : List Item) (st : St) (o : Option R_u0) : Prop := ∀ r, o = some r → Ev Tryz.prog Tryz.f21 0 todo st (res_u0 r) (bo_u0 l_ r)
theorem ev_u0 (k : Nat) (l_ : List (T4).T) : ∀ j, (∀ (y0 : List (T4).T) (y1 : Int) (y2 : Int), E_u0 l_ (placeAt Tryz.f21 4) (st_u0_4 y0 y1 y2) (f_u0_4 k j y0 y1 y2))
  | 0 => fun _ _ _ _ h => nomatch h
  | j + 1 => by
    have ih := @ev_u0 k l_ j
    · intro y0 y1 y2 r h
      rw [f_u0_4] at h
      exact go (mkK [ke_u83 k]) [] cs_u0 [.autoB [2] true []] (gT h (fun c h => gN2 h fun h => gN1 h (fun q => cc_u83 q) fun h => gT h (fun c h => gL h) fun c h => gT h (fun c h => gL h) fun c h => gT h (fun c h => gL h) fun c h => gC h 4 (ih _ _ _ _)) fun c h => gL h) (by kernel_rfl)
theorem of_u0 (k : Nat) (l_ : List (T4).T) (r : R_u0) (h : f_u0 k l_ = some r) : C_u0 l_ r := by
  refine CC.of (fn := Tryz.f21) (by kernel_rfl) (by kernel_rfl) (by kernel_rfl) (by kernel_rfl) ?_
  unfold f_u0 at h
  exact go (mkK [ke_u83 k]) [] cs_u0 [.autoB [2] true []] (gT h (fun c h => gL h) fun c h => gC h 4 ((ev_u0 k l_ k) _ _ _ _)) (by kernel_rfl)
theorem cc_u0 {k : Nat} {l_ : List (T4).T} (h : (f_u0 k l_).isSome = true) : C_u0 l_ (v_u0 k l_) := ccG (Φ := C_u0 l_) h (of_u0 k l_)
abbrev R_u65 : Type := Int
def res_u65 (r : R_u65) : AV := .r (.v (.int .i64 r))
def bo_u65 (l_ : List (T4).T) (r : R_u65) : List (Nat × Blk) := []
def args_u65 (l_ : List (T4).T) : List AV := [.r (.ro T4 l_)]
def bin_u65 (l_ : List (T4).T) : List Blk := []
abbrev C_u65 (l_ : List (T4).T) (r : R_u65) : Prop := CC Tryz.prog 25 (args_u65 l_) (bin_u65 l_) (res_u65 r) (bo_u65 l_ r)
def st_u65_4 (y0 : List (T4).T) (y1 : Int) : St := ⟨mkS 81 [(0, .r (.ro T4 y0)), (3, .r (.v (.int .i64 y1)))], []⟩
def f_u65_4 (k : Nat) : Nat → List (T4).T → Int → Option R_u65
  | 0, _, _ => none
  | j + 1, y0, y1 =>
  bif (decide (y1 < (↑y0.length : Int))) then
  if (0 ≤ y1) ∧ (y1 < (↑y0.length : Int)) ∧ ((f_u63 k (y0.getD y1.toNat T4.dflt).1).isSome = true) then
  bif (v_u63 k (y0.getD y1.toNat T4.dflt).1 != (0 : Int)) then
  some (v_u63 k (y0.getD y1.toNat T4.dflt).1)
  else
  if (0 ≤ y1) ∧ (y1 < (↑y0.length : Int)) ∧ (0 ≤ y1) ∧ (y1 < (↑y0.length : Int)) ∧ (((y0.getD y1.toNat T4.dflt).1.1 == (y0.getD y1.toNat T4.dflt).1.2.1) = false → 0 ≤ y1) ∧ (((y0.getD y1.toNat T4.dflt).1.1 == (y0.getD y1.toNat T4.dflt).1.2.1) = false → y1 < (↑y0.length : Int)) ∧ (((y0.getD y1.toNat T4.dflt).1.1 == (y0.getD y1.toNat T4.dflt).1.2.1) = false → 0 ≤ y1) ∧ (((y0.getD y1.toNat T4.dflt).1.1 == (y0.getD y1.toNat T4.dflt).1.2.1) = false → y1 < (↑y0.length : Int)) then
  bif ((y0.getD y1.toNat T4.dflt).1.1 == (y0.getD y1.toNat T4.dflt).1.2.1 || (y0.getD y1.toNat T4.dflt).1.2.2.1 == (y0.getD y1.toNat T4.dflt).1.2.2.2) then
  some 10
  else
  if (0 ≤ y1) ∧ (y1 < (↑y0.length : Int)) ∧ (decide ((y0.getD y1.toNat T4.dflt).2.1 < (1 : Int)) = false → 0 ≤ y1) ∧ (decide ((y0.getD y1.toNat T4.dflt).2.1 < (1 : Int)) = false → y1 < (↑y0.length : Int)) ∧ ((decide ((y0.getD y1.toNat T4.dflt).2.1 < (1 : Int)) || decide ((y0.getD y1.toNat T4.dflt).2.1 > (16 : Int))) = false → 0 ≤ y1) ∧ ((decide ((y0.getD y1.toNat T4.dflt).2.1 < (1 : Int)) || decide ((y0.getD y1.toNat T4.dflt).2.1 > (16 : Int))) = false → y1 < (↑y0.length : Int)) ∧ ((decide ((y0.getD y1.toNat T4.dflt).2.1 < (1 : Int)) || decide ((y0.getD y1.toNat T4.dflt).2.1 > (16 : Int)) || decide ((y0.getD y1.toNat T4.dflt).2.2 < (1 : Int))) = false → 0 ≤ y1) ∧ ((decide ((y0.getD y1.toNat T4.dflt).2.1 < (1 : Int)) || decide ((y0.getD y1.toNat T4.dflt).2.1 > (16 : Int)) || decide ((y0.getD y1.toNat T4.dflt).2.2 < (1 : Int))) = false → y1 < (↑y0.length : Int)) then
  bif (decide ((y0.getD y1.toNat T4.dflt).2.1 < (1 : Int)) || decide ((y0.getD y1.toNat T4.dflt).2.1 > (16 : Int)) || decide ((y0.getD y1.toNat T4.dflt).2.2 < (1 : Int)) || decide ((y0.getD y1.toNat T4.dflt).2.2 > (100 : Int))) then
  some 1
  else
  f_u65_4 k j y0 ((IntKind.i64.wrap (y1 + 1)))
  else none
  else none
  else none
  else
  some 0
def f_u65 (k : Nat) (l_ : List (T4).T) : Option R_u65 :=
  bif (decide ((↑l_.length : Int) > (128 : Int))) then
  some 8
  else
  f_u65_4 k k l_ 0
def v_u65 (k : Nat) (l_ : List (T4).T) : R_u65 := (f_u65 k l_).getD 0
def ke_u65 (k : Nat) : Ke := (25, fun xs => match xs with
  | [_] => some [false]
  | _ => none, fun xs bs => match xs, bs with
  | [.r (.ro tl__ ql_)], [] => (castL tl__ T4 ql_).bind fun l_ => some (.one (res_u65 (v_u65 k l_), bo_u65 l_ (v_u65 k l_)))
  | _, _ => none)
def cs_u65 : List (Nat × List Cmd) := [(4, [.autoB [0, 3] false []])]
abbrev E_u65 (l_ : List (T4).T) (todo : List Item) (st : St) (o : Option R_u65) : Prop := ∀ r, o = some r → Ev Tryz.prog Tryz.f25 0 todo st (res_u65 r) (bo_u65 l_ r)
theorem ev_u65 (k : Nat) (l_ : List (T4).T) : ∀ j, (∀ (y0 : List (T4).T) (y1 : Int), E_u65 l_ (placeAt Tryz.f25 4) (st_u65_4 y0 y1) (f_u65_4 k j y0 y1))
  | 0 => fun _ _ _ h => nomatch h
  | j + 1 => by
    have ih := @ev_u65 k l_ j
    · intro y0 y1 r h
      rw [f_u65_4] at h
      exact go (mkK [ke_u63 k]) [] cs_u65 [.autoB [2] true []] (gT h (fun c h => gN h (fun q => conjC q.1 (conjC q.2.1 (conjC (cc_u63 q.2.2) conj0))) fun h => gT h (fun c h => gL h) fun c h => gN h (fun q => conjC q.1 (conjC q.2.1 (conjC q.2.2.1 (conjC q.2.2.2.1 (conjC q.2.2.2.2.1 (conjC q.2.2.2.2.2.1 (conjC q.2.2.2.2.2.2.1 (conjC q.2.2.2.2.2.2.2 conj0)))))))) fun h => gT h (fun c h => gL h) fun c h => gN h (fun q => conjC q.1 (conjC q.2.1 (conjC q.2.2.1 (conjC q.2.2.2.1 (conjC q.2.2.2.2.1 (conjC q.2.2.2.2.2.1 (conjC q.2.2.2.2.2.2.1 (conjC q.2.2.2.2.2.2.2 conj0)))))))) fun h => gT h (fun c h => gL h) fun c h => gC h 4 (ih _ _ _)) fun c h => gL h) (by kernel_rfl)
theorem of_u65 (k : Nat) (l_ : List (T4).T) (r : R_u65) (h : f_u65 k l_ = some r) : C_u65 l_ r := by
  refine CC.of (fn := Tryz.f25) (by kernel_rfl) (by kernel_rfl) (by kernel_rfl) (by kernel_rfl) ?_
  unfold f_u65 at h
  exact go (mkK [ke_u63 k]) [] cs_u65 [.autoB [2] true []] (gT h (fun c h => gL h) fun c h => gC h 4 ((ev_u65 k l_ k) _ _ _)) (by kernel_rfl)
theorem cc_u65 {k : Nat} {l_ : List (T4).T} (h : (f_u65 k l_).isSome = true) : C_u65 l_ (v_u65 k l_) := ccG (Φ := C_u65 l_) h (of_u65 k l_)
abbrev R_u23 : Type := List (T0).T × Int
def res_u23 (r : R_u23) : AV := .tup [.r (.ro T0 r.1), .r (.v (.int .i64 r.2))]
def bo_u23 (m_ : List (T0).T) (s_ : T10.T) (r : R_u23) : List (Nat × Blk) := []
def args_u23 (m_ : List (T0).T) (s_ : T10.T) : List AV := [.r (.ro T0 m_), .agg (rvs (enc T10 s_))]
def bin_u23 (m_ : List (T0).T) (s_ : T10.T) : List Blk := []
abbrev C_u23 (m_ : List (T0).T) (s_ : T10.T) (r : R_u23) : Prop := CC Tryz.prog 31 (args_u23 m_ s_) (bin_u23 m_ s_) (res_u23 r) (bo_u23 m_ s_ r)
def f_u23 (k : Nat) (m_ : List (T0).T) (s_ : T10.T) : Option R_u23 :=
  if ((f_u17 k m_).isSome = true) then
  bif (v_u17 k m_ != (0 : Int)) then
  some (([], v_u17 k m_))
  else
  bif (decide (s_.1 < (0 : Int)) || decide (s_.1 > s_.2)) then
  if ((decide (s_.1 < (0 : Int)) || decide (s_.1 > s_.2)) = true) then
  some (([], 1))
  else none
  else
  if ((decide (s_.1 < (0 : Int)) || decide (s_.1 > s_.2)) = false) ∧ ((f_u31 k m_).isSome = true) then
  bif (false || decide (s_.2 > v_u31 k m_)) then
  some (([], 1))
  else
  if ((f_u27 k m_ s_.1 s_.2 []).isSome = true) then
  bif (Sum.isLeft (v_u26 k (v_u27 k m_ s_.1 s_.2 []))) then
  if ((f_u26 k (v_u27 k m_ s_.1 s_.2 [])).isSome = true) then
  some (([], vA_u26 k (v_u27 k m_ s_.1 s_.2 [])))
  else none
  else
  if ((f_u26 k (v_u27 k m_ s_.1 s_.2 [])).isSome = true) then
  some ((v_u27 k m_ s_.1 s_.2 [], vB_u26 k (v_u27 k m_ s_.1 s_.2 [])))
  else none
  else none
  else none
  else none
def v_u23 (k : Nat) (m_ : List (T0).T) (s_ : T10.T) : R_u23 := (f_u23 k m_ s_).getD ([], 0)
def ke_u23 (k : Nat) : Ke := (31, fun xs => match xs with
  | [_, _] => some [false, false]
  | _ => none, fun xs bs => match xs, bs with
  | [.r (.ro tm__ qm_), .agg qs_], [] => (castL tm__ T0 qm_).bind fun m_ => (decS [] T10 qs_).bind fun s_ => some (.one (res_u23 (v_u23 k m_ s_), bo_u23 m_ s_ (v_u23 k m_ s_)))
  | _, _ => none)
theorem of_u23 (k : Nat) (m_ : List (T0).T) (s_ : T10.T) (r : R_u23) (h : f_u23 k m_ s_ = some r) : C_u23 m_ s_ r := by
  refine CC.of (fn := Tryz.f31) (by kernel_rfl) (by kernel_rfl) (by kernel_rfl) (by kernel_rfl) ?_
  unfold f_u23 at h
  exact go (mkK [ke_u17 k, ke_u31 k, ke_u25 k, ke_u27 k, ke_u26 k]) [] [] [.frz 4 false (RTy.list T0), .autoB [4, 5] true []] (gN1 h (fun q => cc_u17 q) fun h => gT h (fun c h => gL h) fun c h => gT h (fun c h => gN1 h id fun h => gU1 h (.need [CC Tryz.prog 53 (args_u27 m_ s_.1 s_.2 []) (bin_u27 m_ s_.1 s_.2 []) (res_u27 (v_u27 k m_ s_.1 s_.2 [])) (bo_u27 m_ s_.1 s_.2 [] (v_u27 k m_ s_.1 s_.2 []))] (.test ((Sum.isLeft (v_u26 k (v_u27 k m_ s_.1 s_.2 [])))) (.need [CC Tryz.prog 55 (args_u26 (v_u27 k m_ s_.1 s_.2 [])) (bin_u26 (v_u27 k m_ s_.1 s_.2 [])) (resA_u26 (vA_u26 k (v_u27 k m_ s_.1 s_.2 []))) (boA_u26 (v_u27 k m_ s_.1 s_.2 []) (vA_u26 k (v_u27 k m_ s_.1 s_.2 [])))] (.leaf (.tup [.r (.ro T0 ([])), .r (.v (.int .i64 ((vA_u26 k (v_u27 k m_ s_.1 s_.2 [])))))]) [])) (.need [CC Tryz.prog 55 (args_u26 (v_u27 k m_ s_.1 s_.2 [])) (bin_u26 (v_u27 k m_ s_.1 s_.2 [])) (resB_u26 (vB_u26 k (v_u27 k m_ s_.1 s_.2 []))) (boB_u26 (v_u27 k m_ s_.1 s_.2 []) (vB_u26 k (v_u27 k m_ s_.1 s_.2 [])))] (.leaf (.tup [.r (.ro T0 ((v_u27 k m_ s_.1 s_.2 []))), .r (.v (.int .i64 ((vB_u26 k (v_u27 k m_ s_.1 s_.2 [])))))]) [])))) fun h => gL h) fun c h => gN h (fun q => conjC q.1 (conjC (cc_u31 q.2) conj0)) fun h => gT h (fun c h => gL h) fun c h => gN1 h (fun q => cc_u27 q) fun h => gT h (fun c h => gN1 h (fun q => ccA_u26 q (by assumption)) fun h => gL h) fun c h => gN1 h (fun q => ccB_u26 q (by assumption)) fun h => gL h) (by kernel_rfl)
theorem cc_u23 {k : Nat} {m_ : List (T0).T} {s_ : T10.T} (h : (f_u23 k m_ s_).isSome = true) : C_u23 m_ s_ (v_u23 k m_ s_) := ccG (Φ := C_u23 m_ s_) h (of_u23 k m_ s_)
end
end Go.AM
namespace Go.AM
open Go Go.Proofs
noncomputable section
end
/-! ### rectangles and defects -/
abbrev Rc4 := Int × Int × Int × Int   -- Left, Right, From, To
abbrev Spt := Rc4 × Int × Int         -- Area, Kind, Level
def rectB (r : Rc4) : Bool := decide (r.1 < (0 : Int)) || decide (r.1 > r.2.1) || decide (r.2.1 > (12000 : Int)) || decide (r.2.2.1 < (0 : Int)) || decide (r.2.2.1 > r.2.2.2) || decide (r.2.2.2 > (17179869184 : Int))
def rectE (r : Rc4) : Int := bif rectB r then 1 else 0
structure RectOk (r : Rc4) : Prop where
  l : 0 ≤ r.1
  lr : r.1 ≤ r.2.1
  w : r.2.1 ≤ 12000
  f : 0 ≤ r.2.2.1
  ft : r.2.2.1 ≤ r.2.2.2
  t : r.2.2.2 ≤ 17179869184
theorem rectE_zero {r : Rc4} (h : rectE r = 0) : RectOk r := by
  unfold rectE at h
  cases e : rectB r
  · unfold rectB at e
    simp only [Bool.or_eq_false_iff, decide_eq_false_iff_not] at e
    obtain ⟨⟨⟨⟨⟨a, b⟩, c⟩, d⟩, f⟩, g⟩ := e
    exact ⟨by omega, by omega, by omega, by omega, by omega, by omega⟩
  · rw [e] at h; cases h
theorem rect_Check_s (k : Nat) (r : Rc4) : f_u83 k r = some (rectE r) := by
  show (bif rectB r then some (1 : Int) else some 0) = some (bif rectB r then 1 else 0)
  cases rectB r <;> rfl
theorem rect_Check_v (k : Nat) (r : Rc4) : v_u83 k r = rectE r := by
  unfold v_u83; rw [rect_Check_s]; rfl
theorem ref15_Check_s (k : Nat) (r : Rc4) : f_u63 k r = some (rectE r) := by
  show (bif rectB r then some (1 : Int) else some 0) = some (bif rectB r then 1 else 0)
  cases rectB r <;> rfl
theorem ref15_Check_v (k : Nat) (r : Rc4) : v_u63 k r = rectE r := by
  unfold v_u63; rw [ref15_Check_s]; rfl
def spotE (x : Spt) : Int := bif (rectE x.1 != 0) then rectE x.1 else bif (x.1.1 == x.1.2.1 || x.1.2.2.1 == x.1.2.2.2) then 10 else bif (decide (x.2.1 < (1 : Int)) || decide (x.2.1 > (16 : Int)) || decide (x.2.2 < (1 : Int)) || decide (x.2.2 > (100 : Int))) then 1 else 0
def spotGo : List Spt → Int
  | [] => 0
  | x :: t => bif (spotE x != 0) then spotE x else spotGo t
def spotsE (l : List Spt) : Int := if l.length > 128 then 8 else spotGo l
structure SpotOk (x : Spt) : Prop where
  area : RectOk x.1
  lr : x.1.1 < x.1.2.1
  ft : x.1.2.2.1 < x.1.2.2.2
  kind : 1 ≤ x.2.1 ∧ x.2.1 ≤ 16
  level : 1 ≤ x.2.2 ∧ x.2.2 ≤ 100
theorem spotE_zero {x : Spt} (h : spotE x = 0) : SpotOk x := by
  unfold spotE at h
  by_cases h1 : rectE x.1 = 0
  · have ok := rectE_zero h1
    rw [show (rectE x.1 != 0) = false by simp [h1], cond_false] at h
    obtain ⟨a, b, c, d, e, f⟩ := ok
    cases h2 : (x.1.1 == x.1.2.1 || x.1.2.2.1 == x.1.2.2.2)
    · rw [h2, cond_false] at h
      simp only [Bool.or_eq_false_iff, beq_eq_false_iff_ne, ne_eq] at h2
      cases h3 : (decide (x.2.1 < (1 : Int)) || decide (x.2.1 > (16 : Int)) || decide (x.2.2 < (1 : Int)) || decide (x.2.2 > (100 : Int)))
      · simp only [Bool.or_eq_false_iff, decide_eq_false_iff_not] at h3
        exact ⟨⟨a, b, c, d, e, f⟩, by omega, by omega, ⟨by omega, by omega⟩, by omega, by omega⟩
      · rw [h3] at h; cases h
    · rw [h2] at h; cases h
  · rw [show (rectE x.1 != 0) = true from bne_iff_ne.2 h1, cond_true] at h
    exact absurd h h1
theorem spotGo_zero : ∀ {l : List Spt}, spotGo l = 0 → ∀ x ∈ l, SpotOk x
  | [], _, x, hx => by simp at hx
  | y :: t, h, x, hx => by
    unfold spotGo at h
    by_cases h1 : spotE y = 0
    · rw [show (spotE y != 0) = false by simp [h1], cond_false] at h
      rcases List.mem_cons.1 hx with e | hx'
      · rw [e]; exact spotE_zero h1
      · exact spotGo_zero h x hx'
    · rw [show (spotE y != 0) = true from bne_iff_ne.2 h1, cond_true] at h
      exact absurd h h1
theorem spotsE_zero {l : List Spt} (h : spotsE l = 0) : l.length ≤ 128 ∧ ∀ x ∈ l, SpotOk x := by
  unfold spotsE at h
  by_cases h1 : l.length > 128
  · rw [if_pos h1] at h; omega
  · rw [if_neg h1] at h
    exact ⟨by omega, spotGo_zero h⟩
theorem defect_Check_l (k : Nat) (l : List Spt) (hl : l.length ≤ 128) : ∀ (d i j : Nat), i + d = l.length → d < j → f_u0_4 k j l (l.length : Int) (i : Int) = some (spotGo (l.drop i)) := by
  intro d
  induction d with
  | zero =>
    intro i j hi hj
    obtain ⟨j, rfl⟩ : ∃ q, j = q + 1 := ⟨j - 1, by omega⟩
    rw [f_u0_4, decide_eq_false (by omega : ¬ (i : Int) < (l.length : Int)), cond_false, List.drop_of_length_le (by omega)]; rfl
  | succ d ih =>
    intro i j hi hj
    obtain ⟨j, rfl⟩ : ∃ q, j = q + 1 := ⟨j - 1, by omega⟩
    rw [f_u0_4, decide_eq_true (by omega : (i : Int) < (l.length : Int)), cond_true, if_pos ⟨by omega, by omega⟩, Int.toNat_natCast, wrapS i (by omega), ih (i + 1) j (by omega) (by omega), drop_cons' l i T4.dflt (by omega), spotGo, rect_Check_s, rect_Check_v, Option.isSome_some, if_pos rfl]
    generalize l.getD i T4.dflt = x
    generalize spotGo (l.drop (i + 1)) = g
    show (bif (rectE x.1 != 0) then some (rectE x.1) else bif (x.1.1 == x.1.2.1 || x.1.2.2.1 == x.1.2.2.2) then some 10 else bif (decide (x.2.1 < (1 : Int)) || decide (x.2.1 > (16 : Int)) || decide (x.2.2 < (1 : Int)) || decide (x.2.2 > (100 : Int))) then some 1 else some g) = some (bif (spotE x != 0) then spotE x else g)
    unfold spotE
    cases h1 : (rectE x.1 != 0)
    · cases (x.1.1 == x.1.2.1 || x.1.2.2.1 == x.1.2.2.2)
      · cases (decide (x.2.1 < (1 : Int)) || decide (x.2.1 > (16 : Int)) || decide (x.2.2 < (1 : Int)) || decide (x.2.2 > (100 : Int))) <;> rfl
      · rfl
    · rw [cond_true, cond_true, h1]; rfl
theorem defect_Check_s (k : Nat) (hk : 300 ≤ k) (l : List Spt) : f_u0 k l = some (spotsE l) := by
  unfold f_u0 spotsE
  by_cases h : l.length > 128
  · rw [if_pos h, decide_eq_true (by omega : (l.length : Int) > 128)]; rfl
  · rw [if_neg h, decide_eq_false (by omega : ¬ (l.length : Int) > 128), cond_false]
    exact defect_Check_l k l (by omega) l.length 0 k (by omega) (by omega)
theorem defect_Check_v (k : Nat) (hk : 300 ≤ k) (l : List Spt) : v_u0 k l = spotsE l := by
  unfold v_u0; rw [defect_Check_s k hk]; rfl
theorem ref36_Check_l (k : Nat) (l : List Spt) (hl : l.length ≤ 128) : ∀ (d i j : Nat), i + d = l.length → d < j → f_u65_4 k j l (i : Int) = some (spotGo (l.drop i)) := by
  intro d
  induction d with
  | zero =>
    intro i j hi hj
    obtain ⟨j, rfl⟩ : ∃ q, j = q + 1 := ⟨j - 1, by omega⟩
    rw [f_u65_4, decide_eq_false (by omega : ¬ (i : Int) < (l.length : Int)), cond_false, List.drop_of_length_le (by omega)]; rfl
  | succ d ih =>
    intro i j hi hj
    obtain ⟨j, rfl⟩ : ∃ q, j = q + 1 := ⟨j - 1, by omega⟩
    have hx : (i : Int) < (l.length : Int) := by omega
    have hx0 : (0 : Int) ≤ (i : Int) := by omega
    rw [f_u65_4, decide_eq_true hx, cond_true, Int.toNat_natCast, wrapS i (by omega), ih (i + 1) j (by omega) (by omega), drop_cons' l i T4.dflt (by omega), spotGo, ref15_Check_s, ref15_Check_v, if_pos ⟨hx0, hx, rfl⟩, if_pos ⟨hx0, hx, hx0, hx, fun _ => hx0, fun _ => hx, fun _ => hx0, fun _ => hx⟩, if_pos ⟨hx0, hx, fun _ => hx0, fun _ => hx, fun _ => hx0, fun _ => hx, fun _ => hx0, fun _ => hx⟩]
    generalize l.getD i T4.dflt = x
    generalize spotGo (l.drop (i + 1)) = g
    show (bif (rectE x.1 != 0) then some (rectE x.1) else bif (x.1.1 == x.1.2.1 || x.1.2.2.1 == x.1.2.2.2) then some 10 else bif (decide (x.2.1 < (1 : Int)) || decide (x.2.1 > (16 : Int)) || decide (x.2.2 < (1 : Int)) || decide (x.2.2 > (100 : Int))) then some 1 else some g) = some (bif (spotE x != 0) then spotE x else g)
    unfold spotE
    cases h1 : (rectE x.1 != 0)
    · cases (x.1.1 == x.1.2.1 || x.1.2.2.1 == x.1.2.2.2)
      · cases (decide (x.2.1 < (1 : Int)) || decide (x.2.1 > (16 : Int)) || decide (x.2.2 < (1 : Int)) || decide (x.2.2 > (100 : Int))) <;> rfl
      · rfl
    · rw [cond_true, cond_true, h1]; rfl
theorem ref36_Check_s (k : Nat) (hk : 300 ≤ k) (l : List Spt) : f_u65 k l = some (spotsE l) := by
  unfold f_u65 spotsE
  by_cases h : l.length > 128
  · rw [if_pos h, decide_eq_true (by omega : (l.length : Int) > 128)]; rfl
  · rw [if_neg h, decide_eq_false (by omega : ¬ (l.length : Int) > 128), cond_false]
    exact ref36_Check_l k l (by omega) l.length 0 k (by omega) (by omega)
theorem ref36_Check_v (k : Nat) (hk : 300 ≤ k) (l : List Spt) : v_u65 k l = spotsE l := by
  unfold v_u65; rw [ref36_Check_s k hk]; rfl

/-! ### parts of maps -/
theorem part_test (s : Sp) : (decide (s.1 < (0 : Int)) || decide (s.1 > s.2)) = decide (s.1 < 0 ∨ s.1 > s.2) := by
  by_cases h1 : s.1 < 0
  · rw [decide_eq_true h1, decide_eq_true (Or.inl h1), Bool.true_or]
  · by_cases h2 : s.1 > s.2
    · rw [decide_eq_true h2, decide_eq_true (Or.inr h2), Bool.or_true]
    · rw [decide_eq_false h1, decide_eq_false h2, decide_eq_false (fun h => by rcases h with h | h; exact h1 h; exact h2 h)]; rfl
theorem iso_Part_s (k : Nat) (hk : 2100 ≤ k) (m : List Rn) (s : Sp) : f_u23 k m s = some (partS m s) := by
  unfold f_u23 partS
  rw [iso_Check_s k (by omega), iso_Check_v k (by omega), Option.isSome_some, if_pos rfl]
  by_cases h1 : chk m = 0
  · have hc := chk_zero.1 h1
    have hl := hc.len
    have ht := hc.tot
    rw [show (chk m != 0) = false by simp [h1], cond_false, if_neg (fun h : chk m ≠ 0 => h h1), iso_length_s k m hc.goods (by omega) (by omega), iso_length_v k m hc.goods (by omega) (by omega), part_test]
    by_cases h2 : s.1 < 0 ∨ s.1 > s.2
    · rw [decide_eq_true h2, cond_true, if_pos rfl, if_pos (show s.1 < 0 ∨ s.1 > s.2 ∨ s.2 > lenS m by omega)]
    · rw [decide_eq_false h2, cond_false, if_pos ⟨rfl, rfl⟩, Bool.false_or]
      by_cases h3 : s.2 > lenS m
      · rw [decide_eq_true h3, cond_true, if_pos (show s.1 < 0 ∨ s.1 > s.2 ∨ s.2 > lenS m by omega)]
      · have ok : EachOk m s.1 s.2 := ⟨hc.goods, by omega, ⟨by omega, by omega⟩, by omega, by omega⟩
        have ha := adds_len (pieces m s.1 s.2) []
        have hp := pieces_len m s.1 s.2
        rw [List.length_nil, Nat.zero_add] at ha
        have hd : f_u26 k (adds [] (pieces m s.1 s.2)) = some (.inr 0) := by
          unfold f_u26
          rw [decide_eq_false (by omega : ¬ ((adds [] (pieces m s.1 s.2)).length : Int) > 256)]; rfl
        rw [decide_eq_false h3, cond_false, if_neg (show ¬ (s.1 < 0 ∨ s.1 > s.2 ∨ s.2 > lenS m) by omega), iso_each_add_s k (by omega) m s.1 s.2 ok [] trivial (by simp), iso_each_add_v k (by omega) m s.1 s.2 ok [] trivial (by simp)]
        unfold vB_u26 v_u26
        rw [hd]; rfl
  · rw [show (chk m != 0) = true from bne_iff_ne.2 h1, cond_true, if_pos h1]
theorem iso_Part_v (k : Nat) (hk : 2100 ≤ k) (m : List Rn) (s : Sp) : v_u23 k m s = partS m s := by
  unfold v_u23; rw [iso_Part_s k hk]; rfl
end Go.AM
namespace Go.AM
open Go Go.Proofs
noncomputable section
abbrev R_u20 : Type := List (T10).T × Int
def res_u20 (r : R_u20) : AV := .tup [.r (.ro T10 r.1), .r (.v (.int .i64 r.2))]
def bo_u20 (m_ : List (T0).T) (s_ : T10.T) (r : R_u20) : List (Nat × Blk) := []
def args_u20 (m_ : List (T0).T) (s_ : T10.T) : List AV := [.r (.ro T0 m_), .agg (rvs (enc T10 s_))]
def bin_u20 (m_ : List (T0).T) (s_ : T10.T) : List Blk := []
abbrev C_u20 (m_ : List (T0).T) (s_ : T10.T) (r : R_u20) : Prop := CC Tryz.prog 23 (args_u20 m_ s_) (bin_u20 m_ s_) (res_u20 r) (bo_u20 m_ s_ r)
def st_u20_9 (y0 : Int) (y1 : List (T0).T) (y2 : Int) (y3 : Int) (y4 : T10.T) (y5 : List (T10).T) : St := ⟨mkS 89 [(3, .ptr 1000000 0 0), (7, .own 1000001 0), (8, .r (.v (.int .i64 y0))), (35, .r (.ro T0 y1)), (36, .r (.v (.int .i64 y2))), (37, .r (.v (.int .i64 y3)))], [(1000000, 0, .var 72 (rvs (enc T10 y4))), (1000001, 0, .row 72 T10 y5)]⟩
def st_u20_20 (y0 : List (T10).T) : St := ⟨mkS 89 [(7, .r (.ro T10 y0))], []⟩
mutual
def f_u20_9 (k : Nat) : Nat → Int → List (T0).T → Int → Int → T10.T → List (T10).T → Option R_u20
  | 0, _, _, _, _, _, _ => none
  | j + 1, y0, y1, y2, y3, y4, y5 =>
  bif (decide (y3 < y2)) then
  if (0 ≤ y3) ∧ (y3 < (↑y1.length : Int)) then
  if ((f_u30 k (y1.getD y3.toNat T0.dflt)).isSome = true) then
  bif (decide ((if y4.1 > (v_u30 k (y1.getD y3.toNat T0.dflt)).1 then y4.1 else (v_u30 k (y1.getD y3.toNat T0.dflt)).1) < if y4.2 < (v_u30 k (y1.getD y3.toNat T0.dflt)).2 then y4.2 else (v_u30 k (y1.getD y3.toNat T0.dflt)).2)) then
  bif (y1.getD y3.toNat T0.dflt).2.2 then
  if ((y5.length + [(IntKind.i64.wrap (y0 + IntKind.i64.wrap ((v_u30 k (y1.getD y3.toNat T0.dflt)).2 - if y4.2 < (v_u30 k (y1.getD y3.toNat T0.dflt)).2 then y4.2 else (v_u30 k (y1.getD y3.toNat T0.dflt)).2)), IntKind.i64.wrap (IntKind.i64.wrap (IntKind.i64.wrap (y0 + IntKind.i64.wrap ((v_u30 k (y1.getD y3.toNat T0.dflt)).2 - if y4.2 < (v_u30 k (y1.getD y3.toNat T0.dflt)).2 then y4.2 else (v_u30 k (y1.getD y3.toNat T0.dflt)).2)) + if y4.2 < (v_u30 k (y1.getD y3.toNat T0.dflt)).2 then y4.2 else (v_u30 k (y1.getD y3.toNat T0.dflt)).2) - if y4.1 > (v_u30 k (y1.getD y3.toNat T0.dflt)).1 then y4.1 else (v_u30 k (y1.getD y3.toNat T0.dflt)).1))].length) * (16 : Nat) ≤ (140737488355328 : Nat)) then
  f_u20_9 k j ((IntKind.i64.wrap (y0 + (y1.getD y3.toNat T0.dflt).2.1))) y1 y2 ((IntKind.i64.wrap (y3 + 1))) y4 ((y5 ++ [(IntKind.i64.wrap (y0 + IntKind.i64.wrap ((v_u30 k (y1.getD y3.toNat T0.dflt)).2 - if y4.2 < (v_u30 k (y1.getD y3.toNat T0.dflt)).2 then y4.2 else (v_u30 k (y1.getD y3.toNat T0.dflt)).2)), IntKind.i64.wrap (IntKind.i64.wrap (IntKind.i64.wrap (y0 + IntKind.i64.wrap ((v_u30 k (y1.getD y3.toNat T0.dflt)).2 - if y4.2 < (v_u30 k (y1.getD y3.toNat T0.dflt)).2 then y4.2 else (v_u30 k (y1.getD y3.toNat T0.dflt)).2)) + if y4.2 < (v_u30 k (y1.getD y3.toNat T0.dflt)).2 then y4.2 else (v_u30 k (y1.getD y3.toNat T0.dflt)).2) - if y4.1 > (v_u30 k (y1.getD y3.toNat T0.dflt)).1 then y4.1 else (v_u30 k (y1.getD y3.toNat T0.dflt)).1))]))
  else none
  else
  if ((y5.length + [(IntKind.i64.wrap (y0 + IntKind.i64.wrap ((if y4.1 > (v_u30 k (y1.getD y3.toNat T0.dflt)).1 then y4.1 else (v_u30 k (y1.getD y3.toNat T0.dflt)).1) - (v_u30 k (y1.getD y3.toNat T0.dflt)).1)), IntKind.i64.wrap (IntKind.i64.wrap (IntKind.i64.wrap (y0 + IntKind.i64.wrap ((if y4.1 > (v_u30 k (y1.getD y3.toNat T0.dflt)).1 then y4.1 else (v_u30 k (y1.getD y3.toNat T0.dflt)).1) - (v_u30 k (y1.getD y3.toNat T0.dflt)).1)) + if y4.2 < (v_u30 k (y1.getD y3.toNat T0.dflt)).2 then y4.2 else (v_u30 k (y1.getD y3.toNat T0.dflt)).2) - if y4.1 > (v_u30 k (y1.getD y3.toNat T0.dflt)).1 then y4.1 else (v_u30 k (y1.getD y3.toNat T0.dflt)).1))].length) * (16 : Nat) ≤ (140737488355328 : Nat)) then
  f_u20_9 k j ((IntKind.i64.wrap (y0 + (y1.getD y3.toNat T0.dflt).2.1))) y1 y2 ((IntKind.i64.wrap (y3 + 1))) y4 ((y5 ++ [(IntKind.i64.wrap (y0 + IntKind.i64.wrap ((if y4.1 > (v_u30 k (y1.getD y3.toNat T0.dflt)).1 then y4.1 else (v_u30 k (y1.getD y3.toNat T0.dflt)).1) - (v_u30 k (y1.getD y3.toNat T0.dflt)).1)), IntKind.i64.wrap (IntKind.i64.wrap (IntKind.i64.wrap (y0 + IntKind.i64.wrap ((if y4.1 > (v_u30 k (y1.getD y3.toNat T0.dflt)).1 then y4.1 else (v_u30 k (y1.getD y3.toNat T0.dflt)).1) - (v_u30 k (y1.getD y3.toNat T0.dflt)).1)) + if y4.2 < (v_u30 k (y1.getD y3.toNat T0.dflt)).2 then y4.2 else (v_u30 k (y1.getD y3.toNat T0.dflt)).2) - if y4.1 > (v_u30 k (y1.getD y3.toNat T0.dflt)).1 then y4.1 else (v_u30 k (y1.getD y3.toNat T0.dflt)).1))]))
  else none
  else
  f_u20_9 k j ((IntKind.i64.wrap (y0 + (y1.getD y3.toNat T0.dflt).2.1))) y1 y2 ((IntKind.i64.wrap (y3 + 1))) y4 y5
  else none
  else none
  else
  f_u20_20 k j y5
def f_u20_20 (k : Nat) : Nat → List (T10).T → Option R_u20
  | 0, _ => none
  | j + 1, y0 =>
  if ((f_u90 k y0).isSome = true) then
  some (((v_u90 k y0).1, (v_u90 k y0).2))
  else none
end
def f_u20 (k : Nat) (m_ : List (T0).T) (s_ : T10.T) : Option R_u20 :=
  if ((f_u17 k m_).isSome = true) then
  bif (v_u17 k m_ != (0 : Int)) then
  some (([], v_u17 k m_))
  else
  bif (decide (s_.1 < (0 : Int)) || decide (s_.1 > s_.2) || decide (s_.2 > (17179869184 : Int))) then
  some (([], 1))
  else
  f_u20_9 k k 0 m_ ((↑m_.length : Int)) 0 s_ ([])
  else none
def v_u20 (k : Nat) (m_ : List (T0).T) (s_ : T10.T) : R_u20 := (f_u20 k m_ s_).getD ([], 0)
def ke_u20 (k : Nat) : Ke := (23, fun xs => match xs with
  | [_, _] => some [false, false]
  | _ => none, fun xs bs => match xs, bs with
  | [.r (.ro tm__ qm_), .agg qs_], [] => (castL tm__ T0 qm_).bind fun m_ => (decS [] T10 qs_).bind fun s_ => some (.one (res_u20 (v_u20 k m_ s_), bo_u20 m_ s_ (v_u20 k m_ s_)))
  | _, _ => none)
def cs_u20 : List (Nat × List Cmd) := [(9, [.row 7 72 T10, .autoB [3, 7, 8, 35, 36, 37] false []]), (20, [.frz 7 false (RTy.list T10), .autoB [7] false []])]
abbrev E_u20 (m_ : List (T0).T) (s_ : T10.T) (todo : List Item) (st : St) (o : Option R_u20) : Prop := ∀ r, o = some r → Ev Tryz.prog Tryz.f23 0 todo st (res_u20 r) (bo_u20 m_ s_ r)
theorem ev_u20 (k : Nat) (m_ : List (T0).T) (s_ : T10.T) : ∀ j, (∀ (y0 : Int) (y1 : List (T0).T) (y2 : Int) (y3 : Int) (y4 : T10.T) (y5 : List (T10).T), E_u20 m_ s_ (placeAt Tryz.f23 9) (st_u20_9 y0 y1 y2 y3 y4 y5) (f_u20_9 k j y0 y1 y2 y3 y4 y5)) ∧ (∀ (y0 : List (T10).T), E_u20 m_ s_ (placeAt Tryz.f23 20) (st_u20_20 y0) (f_u20_20 k j y0))
  | 0 => ⟨fun _ _ _ _ _ _ _ h => (nomatch h), fun _ _ h => (nomatch h)⟩
  | j + 1 => by
    have ih := @ev_u20 k m_ s_ j
    refine ⟨?_, ?_⟩
    · intro y0 y1 y2 y3 y4 y5 r h
      rw [f_u20_9] at h
      exact go (mkK [ke_u17 k, ke_u30 k, ke_u90 k]) [20] cs_u20 [.frz 4 false (RTy.list T10), .autoB [4, 5] true []] (gT h (fun c h => gN2 h fun h => gN1 h (fun q => cc_u30 q) fun h => gT h (fun c h => gT h (fun c h => gN1 h id fun h => gC h 9 (ih.1 _ _ _ _ _ _ _)) fun c h => gN1 h id fun h => gC h 9 (ih.1 _ _ _ _ _ _ _)) fun c h => gC h 9 (ih.1 _ _ _ _ _ _ _)) fun c h => gC h 20 (ih.2 _ _)) (by kernel_rfl)
    · intro y0 r h
      rw [f_u20_20] at h
      exact go (mkK [ke_u17 k, ke_u30 k, ke_u90 k]) [20] cs_u20 [.frz 4 false (RTy.list T10), .autoB [4, 5] true []] (gN1 h (fun q => cc_u90 q) fun h => gL h) (by kernel_rfl)
theorem of_u20 (k : Nat) (m_ : List (T0).T) (s_ : T10.T) (r : R_u20) (h : f_u20 k m_ s_ = some r) : C_u20 m_ s_ r := by
  refine CC.of (fn := Tryz.f23) (by kernel_rfl) (by kernel_rfl) (by kernel_rfl) (by kernel_rfl) ?_
  unfold f_u20 at h
  exact go (mkK [ke_u17 k, ke_u30 k, ke_u90 k]) [20] cs_u20 [.frz 4 false (RTy.list T10), .autoB [4, 5] true []] (gN1 h (fun q => cc_u17 q) fun h => gT h (fun c h => gL h) fun c h => gT h (fun c h => gL h) fun c h => gC h 9 ((ev_u20 k m_ s_ k).1 _ _ _ _ _ _ _)) (by kernel_rfl)
theorem cc_u20 {k : Nat} {m_ : List (T0).T} {s_ : T10.T} (h : (f_u20 k m_ s_).isSome = true) : C_u20 m_ s_ (v_u20 k m_ s_) := ccG (Φ := C_u20 m_ s_) h (of_u20 k m_ s_)
abbrev R_u51 : Type := List (T10).T × Int
def res_u51 (r : R_u51) : AV := .tup [.r (.ro T10 r.1), .r (.v (.int .i64 r.2))]
def bo_u51 (m_ : List (T0).T) (s_ : T10.T) (r : R_u51) : List (Nat × Blk) := []
def args_u51 (m_ : List (T0).T) (s_ : T10.T) : List AV := [.r (.ro T0 m_), .agg (rvs (enc T10 s_))]
def bin_u51 (m_ : List (T0).T) (s_ : T10.T) : List Blk := []
abbrev C_u51 (m_ : List (T0).T) (s_ : T10.T) (r : R_u51) : Prop := CC Tryz.prog 27 (args_u51 m_ s_) (bin_u51 m_ s_) (res_u51 r) (bo_u51 m_ s_ r)
def st_u51_9 (y0 : List (T0).T) (y1 : Int) (y2 : Int) (y3 : T10.T) (y4 : List (T10).T) : St := ⟨mkS 115 [(0, .r (.ro T0 y0)), (3, .ptr 1000000 0 0), (7, .own 1000001 0), (8, .r (.v (.int .i64 y1))), (9, .r (.v (.int .i64 y2)))], [(1000000, 0, .var 72 (rvs (enc T10 y3))), (1000001, 0, .row 72 T10 y4)]⟩
def st_u51_17 (y0 : List (T10).T) : St := ⟨mkS 115 [(7, .r (.ro T10 y0))], []⟩
mutual
def f_u51_9 (k : Nat) : Nat → List (T0).T → Int → Int → T10.T → List (T10).T → Option R_u51
  | 0, _, _, _, _, _ => none
  | j + 1, y0, y1, y2, y3, y4 =>
  bif (decide (y2 < (↑y0.length : Int))) then
  if (0 ≤ y2) ∧ (y2 < (↑y0.length : Int)) ∧ (0 ≤ y2) ∧ (y2 < (↑y0.length : Int)) ∧ (0 ≤ y2) ∧ (y2 < (↑y0.length : Int)) then
  if (0 ≤ y2) ∧ (y2 < (↑y0.length : Int)) then
  bif (y0.getD y2.toNat T0.dflt).2.2 then
  if (0 ≤ y2) ∧ (y2 < (↑y0.length : Int)) ∧ (0 ≤ y2) ∧ (y2 < (↑y0.length : Int)) ∧ (0 ≤ y2) ∧ (y2 < (↑y0.length : Int)) then
  bif (decide ((if IntKind.i64.wrap (IntKind.i64.wrap ((y0.getD y2.toNat T0.dflt).1 - y3.2) + (1 : Int)) > (0 : Int) then IntKind.i64.wrap (IntKind.i64.wrap ((y0.getD y2.toNat T0.dflt).1 - y3.2) + (1 : Int)) else (0 : Int)) < if IntKind.i64.wrap (IntKind.i64.wrap ((y0.getD y2.toNat T0.dflt).1 - y3.1) + (1 : Int)) < (y0.getD y2.toNat T0.dflt).2.1 then IntKind.i64.wrap (IntKind.i64.wrap ((y0.getD y2.toNat T0.dflt).1 - y3.1) + (1 : Int)) else (y0.getD y2.toNat T0.dflt).2.1)) then
  if ((y4.length + [(IntKind.i64.wrap (y1 + if IntKind.i64.wrap (IntKind.i64.wrap ((y0.getD y2.toNat T0.dflt).1 - y3.2) + (1 : Int)) > (0 : Int) then IntKind.i64.wrap (IntKind.i64.wrap ((y0.getD y2.toNat T0.dflt).1 - y3.2) + (1 : Int)) else (0 : Int)), IntKind.i64.wrap (y1 + if IntKind.i64.wrap (IntKind.i64.wrap ((y0.getD y2.toNat T0.dflt).1 - y3.1) + (1 : Int)) < (y0.getD y2.toNat T0.dflt).2.1 then IntKind.i64.wrap (IntKind.i64.wrap ((y0.getD y2.toNat T0.dflt).1 - y3.1) + (1 : Int)) else (y0.getD y2.toNat T0.dflt).2.1))].length) * (16 : Nat) ≤ (140737488355328 : Nat)) then
  if (0 ≤ y2) ∧ (y2 < (↑y0.length : Int)) then
  f_u51_9 k j y0 ((IntKind.i64.wrap (y1 + (y0.getD y2.toNat T0.dflt).2.1))) ((IntKind.i64.wrap (y2 + 1))) y3 ((y4 ++ [(IntKind.i64.wrap (y1 + if IntKind.i64.wrap (IntKind.i64.wrap ((y0.getD y2.toNat T0.dflt).1 - y3.2) + 1) > 0 then IntKind.i64.wrap (IntKind.i64.wrap ((y0.getD y2.toNat T0.dflt).1 - y3.2) + 1) else 0), IntKind.i64.wrap (y1 + if IntKind.i64.wrap (IntKind.i64.wrap ((y0.getD y2.toNat T0.dflt).1 - y3.1) + 1) < (y0.getD y2.toNat T0.dflt).2.1 then IntKind.i64.wrap (IntKind.i64.wrap ((y0.getD y2.toNat T0.dflt).1 - y3.1) + 1) else (y0.getD y2.toNat T0.dflt).2.1))]))
  else none
  else none
  else
  if (0 ≤ y2) ∧ (y2 < (↑y0.length : Int)) then
  f_u51_9 k j y0 ((IntKind.i64.wrap (y1 + (y0.getD y2.toNat T0.dflt).2.1))) ((IntKind.i64.wrap (y2 + 1))) y3 y4
  else none
  else none
  else
  bif (decide ((if IntKind.i64.wrap (y3.1 - (y0.getD y2.toNat T0.dflt).1) > (0 : Int) then IntKind.i64.wrap (y3.1 - (y0.getD y2.toNat T0.dflt).1) else (0 : Int)) < if IntKind.i64.wrap (y3.2 - (y0.getD y2.toNat T0.dflt).1) < (y0.getD y2.toNat T0.dflt).2.1 then IntKind.i64.wrap (y3.2 - (y0.getD y2.toNat T0.dflt).1) else (y0.getD y2.toNat T0.dflt).2.1)) then
  if ((y4.length + [(IntKind.i64.wrap (y1 + if IntKind.i64.wrap (y3.1 - (y0.getD y2.toNat T0.dflt).1) > (0 : Int) then IntKind.i64.wrap (y3.1 - (y0.getD y2.toNat T0.dflt).1) else (0 : Int)), IntKind.i64.wrap (y1 + if IntKind.i64.wrap (y3.2 - (y0.getD y2.toNat T0.dflt).1) < (y0.getD y2.toNat T0.dflt).2.1 then IntKind.i64.wrap (y3.2 - (y0.getD y2.toNat T0.dflt).1) else (y0.getD y2.toNat T0.dflt).2.1))].length) * (16 : Nat) ≤ (140737488355328 : Nat)) then
  if (0 ≤ y2) ∧ (y2 < (↑y0.length : Int)) then
  f_u51_9 k j y0 ((IntKind.i64.wrap (y1 + (y0.getD y2.toNat T0.dflt).2.1))) ((IntKind.i64.wrap (y2 + 1))) y3 ((y4 ++ [(IntKind.i64.wrap (y1 + if IntKind.i64.wrap (y3.1 - (y0.getD y2.toNat T0.dflt).1) > 0 then IntKind.i64.wrap (y3.1 - (y0.getD y2.toNat T0.dflt).1) else 0), IntKind.i64.wrap (y1 + if IntKind.i64.wrap (y3.2 - (y0.getD y2.toNat T0.dflt).1) < (y0.getD y2.toNat T0.dflt).2.1 then IntKind.i64.wrap (y3.2 - (y0.getD y2.toNat T0.dflt).1) else (y0.getD y2.toNat T0.dflt).2.1))]))
  else none
  else none
  else
  if (0 ≤ y2) ∧ (y2 < (↑y0.length : Int)) then
  f_u51_9 k j y0 ((IntKind.i64.wrap (y1 + (y0.getD y2.toNat T0.dflt).2.1))) ((IntKind.i64.wrap (y2 + 1))) y3 y4
  else none
  else none
  else none
  else
  f_u51_17 k j y4
def f_u51_17 (k : Nat) : Nat → List (T10).T → Option R_u51
  | 0, _ => none
  | j + 1, y0 =>
  if ((f_u43 k y0).isSome = true) then
  some (((v_u43 k y0).1, (v_u43 k y0).2))
  else none
end
def f_u51 (k : Nat) (m_ : List (T0).T) (s_ : T10.T) : Option R_u51 :=
  if ((f_u49 k m_).isSome = true) then
  bif (v_u49 k m_ != (0 : Int)) then
  some (([], v_u49 k m_))
  else
  bif (decide (s_.1 < (0 : Int)) || decide (s_.1 > s_.2) || decide (s_.2 > (17179869184 : Int))) then
  some (([], 1))
  else
  f_u51_9 k k m_ 0 0 s_ ([])
  else none
def v_u51 (k : Nat) (m_ : List (T0).T) (s_ : T10.T) : R_u51 := (f_u51 k m_ s_).getD ([], 0)
def ke_u51 (k : Nat) : Ke := (27, fun xs => match xs with
  | [_, _] => some [false, false]
  | _ => none, fun xs bs => match xs, bs with
  | [.r (.ro tm__ qm_), .agg qs_], [] => (castL tm__ T0 qm_).bind fun m_ => (decS [] T10 qs_).bind fun s_ => some (.one (res_u51 (v_u51 k m_ s_), bo_u51 m_ s_ (v_u51 k m_ s_)))
  | _, _ => none)
def cs_u51 : List (Nat × List Cmd) := [(9, [.row 7 72 T10, .autoB [0, 3, 7, 8, 9] false []]), (17, [.frz 7 false (RTy.list T10), .autoB [7] false []])]
abbrev E_u51 (m_ : List (T0).T) (s_ : T10.T) (todo : List Item) (st : St) (o : Option R_u51) : Prop := ∀ r, o = some r → Ev Tryz.prog Tryz.f27 0 todo st (res_u51 r) (bo_u51 m_ s_ r)
theorem ev_u51 (k : Nat) (m_ : List (T0).T) (s_ : T10.T) : ∀ j, (∀ (y0 : List (T0).T) (y1 : Int) (y2 : Int) (y3 : T10.T) (y4 : List (T10).T), E_u51 m_ s_ (placeAt Tryz.f27 9) (st_u51_9 y0 y1 y2 y3 y4) (f_u51_9 k j y0 y1 y2 y3 y4)) ∧ (∀ (y0 : List (T10).T), E_u51 m_ s_ (placeAt Tryz.f27 17) (st_u51_17 y0) (f_u51_17 k j y0))
  | 0 => ⟨fun _ _ _ _ _ _ h => (nomatch h), fun _ _ h => (nomatch h)⟩
  | j + 1 => by
    have ih := @ev_u51 k m_ s_ j
    refine ⟨?_, ?_⟩
    · intro y0 y1 y2 y3 y4 r h
      rw [f_u51_9] at h
      exact go (mkK [ke_u49 k, ke_u43 k]) [17] cs_u51 [.frz 4 false (RTy.list T10), .autoB [4, 5] true []] (gT h (fun c h => gN h (fun q => conjC q.1 (conjC q.2.1 (conjC q.2.2.1 (conjC q.2.2.2.1 (conjC q.2.2.2.2.1 (conjC q.2.2.2.2.2 conj0)))))) fun h => gN2 h fun h => gT h (fun c h => gN h (fun q => conjC q.1 (conjC q.2.1 (conjC q.2.2.1 (conjC q.2.2.2.1 (conjC q.2.2.2.2.1 (conjC q.2.2.2.2.2 conj0)))))) fun h => gT h (fun c h => gN1 h id fun h => gN2 h fun h => gC h 9 (ih.1 _ _ _ _ _ _)) fun c h => gN2 h fun h => gC h 9 (ih.1 _ _ _ _ _ _)) fun c h => gT h (fun c h => gN1 h id fun h => gN2 h fun h => gC h 9 (ih.1 _ _ _ _ _ _)) fun c h => gN2 h fun h => gC h 9 (ih.1 _ _ _ _ _ _)) fun c h => gC h 17 (ih.2 _ _)) (by kernel_rfl)
    · intro y0 r h
      rw [f_u51_17] at h
      exact go (mkK [ke_u49 k, ke_u43 k]) [17] cs_u51 [.frz 4 false (RTy.list T10), .autoB [4, 5] true []] (gN1 h (fun q => cc_u43 q) fun h => gL h) (by kernel_rfl)
theorem of_u51 (k : Nat) (m_ : List (T0).T) (s_ : T10.T) (r : R_u51) (h : f_u51 k m_ s_ = some r) : C_u51 m_ s_ r := by
  refine CC.of (fn := Tryz.f27) (by kernel_rfl) (by kernel_rfl) (by kernel_rfl) (by kernel_rfl) ?_
  unfold f_u51 at h
  exact go (mkK [ke_u49 k, ke_u43 k]) [17] cs_u51 [.frz 4 false (RTy.list T10), .autoB [4, 5] true []] (gN1 h (fun q => cc_u49 q) fun h => gT h (fun c h => gL h) fun c h => gT h (fun c h => gL h) fun c h => gC h 9 ((ev_u51 k m_ s_ k).1 _ _ _ _ _ _)) (by kernel_rfl)
theorem cc_u51 {k : Nat} {m_ : List (T0).T} {s_ : T10.T} (h : (f_u51 k m_ s_).isSome = true) : C_u51 m_ s_ (v_u51 k m_ s_) := ccG (Φ := C_u51 m_ s_) h (of_u51 k m_ s_)

end
theorem max_if (a b : Int) : (if a > b then a else b) = max b a := by split <;> omega
theorem min_if2 (a b : Int) : (if a < b then a else b) = min b a := by split <;> omega
theorem find_test (s : Sp) : (decide (s.1 < (0 : Int)) || decide (s.1 > s.2) || decide (s.2 > (17179869184 : Int))) = decide (s.1 < 0 ∨ s.1 > s.2 ∨ s.2 > 17179869184) := by
  by_cases h1 : s.1 < 0
  · rw [decide_eq_true h1, decide_eq_true (Or.inl h1), Bool.true_or, Bool.true_or]
  · by_cases h2 : s.1 > s.2
    · rw [decide_eq_true h2, decide_eq_true (Or.inr (Or.inl h2)), Bool.or_true, Bool.true_or]
    · by_cases h3 : s.2 > 17179869184
      · rw [decide_eq_true h3, decide_eq_true (Or.inr (Or.inr h3)), Bool.or_true]
      · rw [decide_eq_false h1, decide_eq_false h2, decide_eq_false h3, decide_eq_false (by omega)]; rfl
theorem find_in {m : List Rn} (hc : Chk m) (s : Sp) : In 0 17179869184 (fndS m 0 s) := In.of fun x hx => by
  have h := fndS_in m 0 s hc.goods x hx
  have := hc.tot
  exact ⟨by omega, by omega, by omega⟩
theorem find_norm {m : List Rn} (hc : Chk m) (s : Sp) : normS (fndS m 0 s) = (nf (fndS m 0 s), 0) := by
  have hl := fndS_len m 0 s
  have := hc.len
  unfold normS
  rw [if_neg (fun e => e (chkS_zero.2 ⟨by omega, find_in hc s⟩))]
/-- the span of a run, if it has points of the span -/
def fnd1 (r : Rn) (a : Int) (s : Sp) : List Sp := if max (lo r) s.1 < min (Go.AM.hi r + 1) s.2 then [(a + (if r.2.2 = true then Go.AM.hi r + 1 - min (Go.AM.hi r + 1) s.2 else max (lo r) s.1 - lo r), a + (if r.2.2 = true then Go.AM.hi r + 1 - min (Go.AM.hi r + 1) s.2 else max (lo r) s.1 - lo r) + min (Go.AM.hi r + 1) s.2 - max (lo r) s.1)] else []
theorem fndS_cons (r : Rn) (t : List Rn) (a : Int) (s : Sp) : fndS (r :: t) a s = fnd1 r a s ++ fndS t (a + r.2.1) s := rfl
theorem iso_Find_9 (k : Nat) (hk : 2100 ≤ k) (m : List Rn) (hc : Chk m) (s : Sp) (s0 : 0 ≤ s.1 ∧ s.1 ≤ 17179869184) (s1 : 0 ≤ s.2 ∧ s.2 ≤ 17179869184) : ∀ (d i j : Nat) (a : Int) (out : List Sp), i + d = m.length → d + 1 < j → 0 ≤ a → a ≤ (i : Int) * 17179869184 → out.length ≤ i → out ++ fndS (m.drop i) a s = fndS m 0 s →
    f_u20_9 k j a m (m.length : Int) (i : Int) s out = some (nf (fndS m 0 s), 0) := by
  intro d
  have hl := hc.len
  induction d with
  | zero =>
    intro i j a out hi hj h0 h1 ho he
    obtain ⟨j, rfl⟩ : ∃ q, j = q + 1 + 1 := ⟨j - 2, by omega⟩
    rw [f_u20_9, decide_eq_false (by omega : ¬ (i : Int) < (m.length : Int)), cond_false, f_u20_20]
    rw [List.drop_of_length_le (by omega)] at he
    rw [show fndS ([] : List Rn) a s = [] from rfl, List.append_nil] at he
    rw [he, span_Norm_s k hk, span_Norm_v k hk, find_norm hc]
    rfl
  | succ d ih =>
    intro i j a out hi hj h0 h1 ho he
    obtain ⟨j, rfl⟩ : ∃ q, j = q + 1 := ⟨j - 1, by omega⟩
    have hg : good (m.getD i T0.dflt) := hc.goods.mem _ (getD_mem' _ _ _ (by omega))
    rw [drop_cons' m i T0.dflt (by omega), fndS_cons, ← List.append_assoc] at he
    rw [f_u20_9, decide_eq_true (by omega : (i : Int) < (m.length : Int)), cond_true, if_pos ⟨by omega, by omega⟩, Int.toNat_natCast, iso_images_s k _ hg, iso_images_v k _ hg, Option.isSome_some, if_pos rfl, wrapS i (by omega)]
    generalize m.getD i T0.dflt = r at *
    obtain ⟨g1, g2, g3, g4, _⟩ := _root_.id hg
    obtain ⟨l1, l2, l3, l4⟩ := hg.lohi
    rw [show (spn r).1 = lo r from rfl, show (spn r).2 = Go.AM.hi r + 1 from rfl, max_if, min_if2, wrap_id (i := a + r.2.1) (by omega) (by omega), wrap_id (i := Go.AM.hi r + 1 - min (Go.AM.hi r + 1) s.2) (by omega) (by omega), wrap_id (i := max (lo r) s.1 - lo r) (by omega) (by omega)]
    unfold fnd1 at he
    by_cases h : max (lo r) s.1 < min (Go.AM.hi r + 1) s.2
    · rw [decide_eq_true h, cond_true]
      rw [if_pos h] at he
      rw [wrap_id (i := a + (Go.AM.hi r + 1 - min (Go.AM.hi r + 1) s.2)) (by omega) (by omega), wrap_id (i := a + (max (lo r) s.1 - lo r)) (by omega) (by omega)]
      rw [wrap_id (i := a + (Go.AM.hi r + 1 - min (Go.AM.hi r + 1) s.2) + min (Go.AM.hi r + 1) s.2) (by omega) (by omega), wrap_id (i := a + (max (lo r) s.1 - lo r) + min (Go.AM.hi r + 1) s.2) (by omega) (by omega)]
      rw [wrap_id (i := a + (Go.AM.hi r + 1 - min (Go.AM.hi r + 1) s.2) + min (Go.AM.hi r + 1) s.2 - max (lo r) s.1) (by omega) (by omega), wrap_id (i := a + (max (lo r) s.1 - lo r) + min (Go.AM.hi r + 1) s.2 - max (lo r) s.1) (by omega) (by omega)]
      cases hb : r.2.2
      · rw [hb] at he
        rw [if_neg Bool.false_ne_true] at he
        rw [cond_false, if_pos (by rw [List.length_singleton]; omega)]
        exact ih (i + 1) j _ _ (by omega) (by omega) (by omega) (by omega) (by rw [List.length_append, List.length_singleton]; omega) he
      · rw [hb] at he
        rw [if_pos rfl] at he
        rw [cond_true, if_pos (by rw [List.length_singleton]; omega)]
        exact ih (i + 1) j _ _ (by omega) (by omega) (by omega) (by omega) (by rw [List.length_append, List.length_singleton]; omega) he
    · rw [decide_eq_false h, cond_false]
      rw [if_neg h, List.append_nil] at he
      exact ih (i + 1) j _ _ (by omega) (by omega) (by omega) (by omega) (by omega) he
theorem iso_Find_s (k : Nat) (hk : 2100 ≤ k) (m : List Rn) (s : Sp) : f_u20 k m s = some (findS m s) := by
  unfold f_u20 findS
  rw [iso_Check_s k (by omega), iso_Check_v k (by omega), Option.isSome_some, if_pos rfl, find_test]
  by_cases h1 : chk m = 0
  · have hc := chk_zero.1 h1
    have hl := hc.len
    rw [show (chk m != 0) = false by simp [h1], cond_false, if_neg (fun h : chk m ≠ 0 => h h1)]
    by_cases h2 : s.1 < 0 ∨ s.1 > s.2 ∨ s.2 > 17179869184
    · rw [decide_eq_true h2, cond_true, if_pos h2]
    · rw [decide_eq_false h2, cond_false, if_neg h2]
      exact iso_Find_9 k hk m hc s ⟨by omega, by omega⟩ ⟨by omega, by omega⟩ m.length 0 k 0 [] (by omega) (by omega) (by omega) (by omega) (by simp) rfl
  · rw [show (chk m != 0) = true from bne_iff_ne.2 h1, cond_true, if_pos h1]
theorem iso_Find_v (k : Nat) (hk : 2100 ≤ k) (m : List Rn) (s : Sp) : v_u20 k m s = findS m s := by
  unfold v_u20; rw [iso_Find_s k hk]; rfl
theorem fnd1_back {r : Rn} (hg : good r) (a : Int) (s : Sp) (hb : r.2.2 = true) : fnd1 r a s = if max 0 (r.1 - s.2 + 1) < min r.2.1 (r.1 - s.1 + 1) then [(a + max 0 (r.1 - s.2 + 1), a + min r.2.1 (r.1 - s.1 + 1))] else [] := by
  obtain ⟨g1, g2, g3, g4, _⟩ := hg
  unfold fnd1 lo Go.AM.hi
  rw [hb]
  simp only [if_true]
  by_cases h : max 0 (r.1 - s.2 + 1) < min r.2.1 (r.1 - s.1 + 1)
  · rw [if_pos h, if_pos (by omega)]
    rw [show a + (r.1 + 1 - min (r.1 + 1) s.2) = a + max 0 (r.1 - s.2 + 1) by omega, show a + max 0 (r.1 - s.2 + 1) + min (r.1 + 1) s.2 - max (r.1 - r.2.1 + 1) s.1 = a + min r.2.1 (r.1 - s.1 + 1) by omega]
  · rw [if_neg h, if_neg (by omega)]
theorem fnd1_fore {r : Rn} (hg : good r) (a : Int) (s : Sp) (hb : r.2.2 = false) : fnd1 r a s = if max 0 (s.1 - r.1) < min r.2.1 (s.2 - r.1) then [(a + max 0 (s.1 - r.1), a + min r.2.1 (s.2 - r.1))] else [] := by
  obtain ⟨g1, g2, g3, g4, _⟩ := hg
  unfold fnd1 lo Go.AM.hi
  rw [hb]
  simp only [Bool.false_eq_true, if_false]
  by_cases h : max 0 (s.1 - r.1) < min r.2.1 (s.2 - r.1)
  · rw [if_pos h, if_pos (by omega)]
    rw [show a + (max r.1 s.1 - r.1) = a + max 0 (s.1 - r.1) by omega, show a + max 0 (s.1 - r.1) + min (r.1 + r.2.1 - 1 + 1) s.2 - max r.1 s.1 = a + min r.2.1 (s.2 - r.1) by omega]
  · rw [if_neg h, if_neg (by omega)]
theorem ref13_Find_9 (k : Nat) (hk : 2100 ≤ k) (m : List Rn) (hc : Chk m) (s : Sp) (s0 : 0 ≤ s.1 ∧ s.1 ≤ 17179869184) (s1 : 0 ≤ s.2 ∧ s.2 ≤ 17179869184) : ∀ (d i j : Nat) (a : Int) (out : List Sp), i + d = m.length → d + 1 < j → 0 ≤ a → a ≤ (i : Int) * 17179869184 → out.length ≤ i → out ++ fndS (m.drop i) a s = fndS m 0 s →
    f_u51_9 k j m a (i : Int) s out = some (nf (fndS m 0 s), 0) := by
  intro d
  have hl := hc.len
  induction d with
  | zero =>
    intro i j a out hi hj h0 h1 ho he
    obtain ⟨j, rfl⟩ : ∃ q, j = q + 1 + 1 := ⟨j - 2, by omega⟩
    rw [f_u51_9, decide_eq_false (by omega : ¬ (i : Int) < (m.length : Int)), cond_false, f_u51_17]
    rw [List.drop_of_length_le (by omega)] at he
    rw [show fndS ([] : List Rn) a s = [] from rfl, List.append_nil] at he
    rw [he, ref04_Norm_s k (by omega), ref04_Norm_v k (by omega), find_norm hc]
    rfl
  | succ d ih =>
    intro i j a out hi hj h0 h1 ho he
    obtain ⟨j, rfl⟩ : ∃ q, j = q + 1 := ⟨j - 1, by omega⟩
    have hg : good (m.getD i T0.dflt) := hc.goods.mem _ (getD_mem' _ _ _ (by omega))
    have hx : (i : Int) < (m.length : Int) := by omega
    have hx0 : (0 : Int) ≤ (i : Int) := by omega
    rw [drop_cons' m i T0.dflt (by omega), fndS_cons, ← List.append_assoc] at he
    rw [f_u51_9, decide_eq_true hx, cond_true, if_pos ⟨hx0, hx, hx0, hx, hx0, hx⟩, if_pos ⟨hx0, hx⟩, Int.toNat_natCast, wrapS i (by omega)]
    generalize m.getD i T0.dflt = r at *
    obtain ⟨g1, g2, g3, g4, _⟩ := _root_.id hg
    rw [max_if, min_if2, max_if, min_if2, wrap_id (i := a + r.2.1) (by omega) (by omega)]
    rw [wrap_id (i := r.1 - s.2) (by omega) (by omega), wrap_id (i := r.1 - s.1) (by omega) (by omega), wrap_id (i := s.1 - r.1) (by omega) (by omega), wrap_id (i := s.2 - r.1) (by omega) (by omega)]
    rw [wrap_id (i := r.1 - s.2 + 1) (by omega) (by omega), wrap_id (i := r.1 - s.1 + 1) (by omega) (by omega)]
    rw [wrap_id (i := a + max 0 (r.1 - s.2 + 1)) (by omega) (by omega), wrap_id (i := a + min r.2.1 (r.1 - s.1 + 1)) (by omega) (by omega), wrap_id (i := a + max 0 (s.1 - r.1)) (by omega) (by omega), wrap_id (i := a + min r.2.1 (s.2 - r.1)) (by omega) (by omega)]
    cases hb : r.2.2
    · rw [fnd1_fore hg a s hb] at he
      rw [cond_false]
      by_cases h : max 0 (s.1 - r.1) < min r.2.1 (s.2 - r.1)
      · rw [if_pos h] at he
        rw [decide_eq_true h, cond_true, if_pos (by rw [List.length_singleton]; omega), if_pos ⟨hx0, hx⟩]
        exact ih (i + 1) j _ _ (by omega) (by omega) (by omega) (by omega) (by rw [List.length_append, List.length_singleton]; omega) he
      · rw [if_neg h, List.append_nil] at he
        rw [decide_eq_false h, cond_false, if_pos ⟨hx0, hx⟩]
        exact ih (i + 1) j _ _ (by omega) (by omega) (by omega) (by omega) (by omega) he
    · rw [fnd1_back hg a s hb] at he
      rw [cond_true, if_pos ⟨hx0, hx, hx0, hx, hx0, hx⟩]
      by_cases h : max 0 (r.1 - s.2 + 1) < min r.2.1 (r.1 - s.1 + 1)
      · rw [if_pos h] at he
        rw [decide_eq_true h, cond_true, if_pos (by rw [List.length_singleton]; omega), if_pos ⟨hx0, hx⟩]
        exact ih (i + 1) j _ _ (by omega) (by omega) (by omega) (by omega) (by rw [List.length_append, List.length_singleton]; omega) he
      · rw [if_neg h, List.append_nil] at he
        rw [decide_eq_false h, cond_false, if_pos ⟨hx0, hx⟩]
        exact ih (i + 1) j _ _ (by omega) (by omega) (by omega) (by omega) (by omega) he
theorem ref13_Find_s (k : Nat) (hk : 2100 ≤ k) (m : List Rn) (s : Sp) : f_u51 k m s = some (findS m s) := by
  unfold f_u51 findS
  rw [ref13_Check_s k (by omega), ref13_Check_v k (by omega), Option.isSome_some, if_pos rfl, find_test]
  by_cases h1 : chk m = 0
  · have hc := chk_zero.1 h1
    have hl := hc.len
    rw [show (chk m != 0) = false by simp [h1], cond_false, if_neg (fun h : chk m ≠ 0 => h h1)]
    by_cases h2 : s.1 < 0 ∨ s.1 > s.2 ∨ s.2 > 17179869184
    · rw [decide_eq_true h2, cond_true, if_pos h2]
    · rw [decide_eq_false h2, cond_false, if_neg h2]
      exact ref13_Find_9 k hk m hc s ⟨by omega, by omega⟩ ⟨by omega, by omega⟩ m.length 0 k 0 [] (by omega) (by omega) (by omega) (by omega) (by simp) rfl
  · rw [show (chk m != 0) = true from bne_iff_ne.2 h1, cond_true, if_pos h1]
theorem ref13_Find_v (k : Nat) (hk : 2100 ≤ k) (m : List Rn) (s : Sp) : v_u51 k m s = findS m s := by
  unfold v_u51; rw [ref13_Find_s k hk]; rfl
end Go.AM
namespace Go.AM
open Go Go.Proofs
noncomputable section
abbrev R_u10 : Type := List (T3).T × Int
def res_u10 (r : R_u10) : AV := .tup [.r (.ro T3 r.1), .r (.v (.int .i64 r.2))]
def bo_u10 (l_ : List (T2).T) (web_ : T6.T) (id_ : Int) (r_ : T3.T) (r : R_u10) : List (Nat × Blk) := []
def args_u10 (l_ : List (T2).T) (web_ : T6.T) (id_ : Int) (r_ : T3.T) : List AV := [.r (.ro T2 l_), .agg (rvs (enc T6 web_)), .r (.v (.int .i64 id_)), .agg (rvs (enc T3 r_))]
def bin_u10 (l_ : List (T2).T) (web_ : T6.T) (id_ : Int) (r_ : T3.T) : List Blk := []
abbrev C_u10 (l_ : List (T2).T) (web_ : T6.T) (id_ : Int) (r_ : T3.T) (r : R_u10) : Prop := CC Tryz.prog 14 (args_u10 l_ web_ id_ r_) (bin_u10 l_ web_ id_ r_) (res_u10 r) (bo_u10 l_ web_ id_ r_ r)
def st_u10_25 (y0 : Int) (y1 : Int) (y2 : List (T10).T) (y3 : Int) (y4 : Int) (y5 : T1.T) (y6 : List (T3).T) : St := ⟨mkS 119 [(10, .ptr 1000000 0 0), (16, .r (.v (.int .i64 y0))), (17, .r (.v (.int .i64 y1))), (18, .own 1000001 0), (95, .r (.ro T10 y2)), (96, .r (.v (.int .i64 y3))), (97, .r (.v (.int .i64 y4)))], [(1000000, 0, .var 57 (rvs (enc T1 y5))), (1000001, 0, .row 42 T3 y6)]⟩
def f_u10_25 (k : Nat) : Nat → Int → Int → List (T10).T → Int → Int → T1.T → List (T3).T → Option R_u10
  | 0, _, _, _, _, _, _, _ => none
  | j + 1, y0, y1, y2, y3, y4, y5, y6 =>
  bif (decide (y4 < y3)) then
  if (0 ≤ y4) ∧ (y4 < (↑y2.length : Int)) then
  if ((y6.length + [(IntKind.i64.wrap (y5.1 + y0), IntKind.i64.wrap (y5.1 + y1), y2.getD y4.toNat T10.dflt)].length) * (32 : Nat) ≤ (140737488355328 : Nat)) then
  f_u10_25 k j y0 y1 y2 y3 ((IntKind.i64.wrap (y4 + 1))) y5 ((y6 ++ [(IntKind.i64.wrap (y5.1 + y0), IntKind.i64.wrap (y5.1 + y1), y2.getD y4.toNat T10.dflt)]))
  else none
  else none
  else
  some ((y6, 0))
def f_u10 (k : Nat) (l_ : List (T2).T) (web_ : T6.T) (id_ : Int) (r_ : T3.T) : Option R_u10 :=
  if ((f_u1 k l_ web_ id_).isSome = true) then
  bif ((v_u1 k l_ web_ id_).2 != (0 : Int)) then
  some (([], (v_u1 k l_ web_ id_).2))
  else
  if ((f_u83 k r_).isSome = true) then
  bif (v_u83 k r_ != (0 : Int)) then
  some (([], v_u83 k r_))
  else
  if ((f_u22 k (v_u1 k l_ web_ id_).1.2.2.2).isSome = true) then
  bif ((v_u22 k (v_u1 k l_ web_ id_).1.2.2.2).2 != (0 : Int)) then
  some (([], (v_u22 k (v_u1 k l_ web_ id_).1.2.2.2).2))
  else
  bif (decide (r_.2.1 > (v_u1 k l_ web_ id_).1.2.1)) then
  some (([], 20))
  else
  bif (decide (r_.2.2.2 > (v_u22 k (v_u1 k l_ web_ id_).1.2.2.2).1)) then
  some (([], 21))
  else
  if ((f_u23 k (v_u1 k l_ web_ id_).1.2.2.2 r_.2.2).isSome = true) then
  bif ((v_u23 k (v_u1 k l_ web_ id_).1.2.2.2 r_.2.2).2 != (0 : Int)) then
  some (([], (v_u23 k (v_u1 k l_ web_ id_).1.2.2.2 r_.2.2).2))
  else
  if ((f_u21 k (v_u23 k (v_u1 k l_ web_ id_).1.2.2.2 r_.2.2).1).isSome = true) then
  bif ((v_u21 k (v_u23 k (v_u1 k l_ web_ id_).1.2.2.2 r_.2.2).1).2 != (0 : Int)) then
  some (([], (v_u21 k (v_u23 k (v_u1 k l_ web_ id_).1.2.2.2 r_.2.2).1).2))
  else
  bif (v_u1 k l_ web_ id_).1.2.2.1 then
  f_u10_25 k k ((IntKind.i64.wrap ((v_u1 k l_ web_ id_).1.2.1 - r_.2.1))) ((IntKind.i64.wrap ((v_u1 k l_ web_ id_).1.2.1 - r_.1))) ((v_u21 k (v_u23 k (v_u1 k l_ web_ id_).1.2.2.2 r_.2.2).1).1) ((↑ (v_u21 k (v_u23 k (v_u1 k l_ web_ id_).1.2.2.2 r_.2.2).1).1.length : Int)) 0 ((v_u1 k l_ web_ id_).1) ([])
  else
  f_u10_25 k k r_.1 r_.2.1 ((v_u21 k (v_u23 k (v_u1 k l_ web_ id_).1.2.2.2 r_.2.2).1).1) ((↑ (v_u21 k (v_u23 k (v_u1 k l_ web_ id_).1.2.2.2 r_.2.2).1).1.length : Int)) 0 ((v_u1 k l_ web_ id_).1) ([])
  else none
  else none
  else none
  else none
  else none
def v_u10 (k : Nat) (l_ : List (T2).T) (web_ : T6.T) (id_ : Int) (r_ : T3.T) : R_u10 := (f_u10 k l_ web_ id_ r_).getD ([], 0)
def ke_u10 (k : Nat) : Ke := (14, fun xs => match xs with
  | [_, _, _, _] => some [false, false, false, false]
  | _ => none, fun xs bs => match xs, bs with
  | [.r (.ro tl__ ql_), .agg qweb_, .r (.v (.int .i64 id_)), .agg qr_], [] => (castL tl__ T2 ql_).bind fun l_ => (decS [] T6 qweb_).bind fun web_ => (decS [] T3 qr_).bind fun r_ => some (.one (res_u10 (v_u10 k l_ web_ id_ r_), bo_u10 l_ web_ id_ r_ (v_u10 k l_ web_ id_ r_)))
  | _, _ => none)
def K_u10 (k : Nat) : Calld := mkK [ke_u22 k, ke_u21 k, ke_u1 k, ke_u83 k, ke_u23 k]
def cs_u10 : List (Nat × List Cmd) := [(25, [.row 18 42 T3, .autoB [10, 16, 17, 18, 95, 96, 97] false []])]
abbrev E_u10 (l_ : List (T2).T) (web_ : T6.T) (id_ : Int) (r_ : T3.T) (todo : List Item) (st : St) (o : Option R_u10) : Prop := ∀ r, o = some r → Ev Tryz.prog Tryz.f14 0 todo st (res_u10 r) (bo_u10 l_ web_ id_ r_ r)
theorem ev_u10 (k : Nat) (l_ : List (T2).T) (web_ : T6.T) (id_ : Int) (r_ : T3.T) : ∀ j, (∀ (y0 : Int) (y1 : Int) (y2 : List (T10).T) (y3 : Int) (y4 : Int) (y5 : T1.T) (y6 : List (T3).T), E_u10 l_ web_ id_ r_ (placeAt Tryz.f14 25) (st_u10_25 y0 y1 y2 y3 y4 y5 y6) (f_u10_25 k j y0 y1 y2 y3 y4 y5 y6))
  | 0 => fun _ _ _ _ _ _ _ _ h => (nomatch h)
  | j + 1 => by
    have ih := @ev_u10 k l_ web_ id_ r_ j
    · intro y0 y1 y2 y3 y4 y5 y6 r h
      rw [f_u10_25] at h
      exact go (K_u10 k) [] cs_u10 [.frz 8 false (RTy.list T3), .autoB [8, 9] true []] (gT h (fun c h => gN2 h fun h => gN1 h id fun h => gC h 25 (ih _ _ _ _ _ _ _ _)) fun c h => gL h) (by kernel_rfl)
theorem of_u10 (k : Nat) (l_ : List (T2).T) (web_ : T6.T) (id_ : Int) (r_ : T3.T) (r : R_u10) (h : f_u10 k l_ web_ id_ r_ = some r) : C_u10 l_ web_ id_ r_ r := by
  refine CC.of (fn := Tryz.f14) (by kernel_rfl) (by kernel_rfl) (by kernel_rfl) (by kernel_rfl) ?_
  unfold f_u10 at h
  exact go (K_u10 k) [] cs_u10 [.frz 8 false (RTy.list T3), .autoB [8, 9] true []] (gN1 h (fun q => cc_u1 q) fun h => gT h (fun c h => gL h) fun c h => gN1 h (fun q => cc_u83 q) fun h => gT h (fun c h => gL h) fun c h => gN1 h (fun q => cc_u22 q) fun h => gT h (fun c h => gL h) fun c h => gT h (fun c h => gL h) fun c h => gT h (fun c h => gL h) fun c h => gN1 h (fun q => cc_u23 q) fun h => gT h (fun c h => gL h) fun c h => gN1 h (fun q => cc_u21 q) fun h => gT h (fun c h => gL h) fun c h => gT h (fun c h => gC h 25 ((ev_u10 k l_ web_ id_ r_ k) _ _ _ _ _ _ _ _)) fun c h => gC h 25 ((ev_u10 k l_ web_ id_ r_ k) _ _ _ _ _ _ _ _)) (by kernel_rfl)
theorem cc_u10 {k : Nat} {l_ : List (T2).T} {web_ : T6.T} {id_ : Int} {r_ : T3.T} (h : (f_u10 k l_ web_ id_ r_).isSome = true) : C_u10 l_ web_ id_ r_ (v_u10 k l_ web_ id_ r_) := ccG (Φ := C_u10 l_ web_ id_ r_) h (of_u10 k l_ web_ id_ r_)
end
/-! ### back on the web -/
def backS (l : List Ro) (W L id : Int) (r : Rc4) : List Rc4 × Int :=
  if (cutFull l W L id).2 ≠ 0 then ([], (cutFull l W L id).2)
  else if rectE r ≠ 0 then ([], rectE r)
  else if r.2.1 > (cutFull l W L id).1.2.1 then ([], 20)
  else if r.2.2.2 > lenS (cutFull l W L id).1.2.2.2 then ([], 21)
  else if (imageS (partS (cutFull l W L id).1.2.2.2 r.2.2).1).2 ≠ 0 then ([], (imageS (partS (cutFull l W L id).1.2.2.2 r.2.2).1).2)
  else ((imageS (partS (cutFull l W L id).1.2.2.2 r.2.2).1).1.map fun s => ((if (cutFull l W L id).1.2.2.1 = true then (cutFull l W L id).1.1 + (cutFull l W L id).1.2.1 - r.2.1 else (cutFull l W L id).1.1 + r.1), (if (cutFull l W L id).1.2.2.1 = true then (cutFull l W L id).1.1 + (cutFull l W L id).1.2.1 - r.1 else (cutFull l W L id).1.1 + r.2.1), s), 0)
/-- a cut without error -/
theorem cut_in {l : List Ro} {W L id : Int} (h : (cutFull l W L id).2 = 0) : Reg l W L ∧ CutIn l W L id (cutFull l W L id).1 512 := by
  have hz : errS l W L id = 0 := by
    unfold cutFull at h
    by_cases h2 : errS l W L id = 0
    · exact h2
    · rw [if_pos h2] at h; exact absurd h h2
  obtain ⟨reg, kn⟩ := errS_zero.1 hz
  have hC : cutFull l W L id = cutS l W L 512 id := by unfold cutFull; rw [if_neg (fun h => h hz)]
  refine ⟨reg, cutS_in reg 512 id _ (reg.anc kn) ?_⟩
  rw [← hC, ← h]
theorem Back_25 (k : Nat) (a b : Int) (s : List Sp) (hs : s.length ≤ 100000) (c : Ch) (ha : IntKind.i64.wrap (c.1 + a) = c.1 + a) (hb : IntKind.i64.wrap (c.1 + b) = c.1 + b) : ∀ (d i j : Nat) (out : List Rc4), i + d = s.length → d < j → out.length ≤ i →
    f_u10_25 k j a b s (s.length : Int) (i : Int) c out = some (out ++ (s.drop i).map (fun x => (c.1 + a, c.1 + b, x)), 0) := by
  intro d
  induction d with
  | zero =>
    intro i j out hi hj ho
    obtain ⟨j, rfl⟩ : ∃ q, j = q + 1 := ⟨j - 1, by omega⟩
    rw [f_u10_25, decide_eq_false (by omega : ¬ (i : Int) < (s.length : Int)), cond_false, List.drop_of_length_le (by omega), List.map_nil, List.append_nil]
  | succ d ih =>
    intro i j out hi hj ho
    obtain ⟨j, rfl⟩ : ∃ q, j = q + 1 := ⟨j - 1, by omega⟩
    rw [f_u10_25, decide_eq_true (by omega : (i : Int) < (s.length : Int)), cond_true, if_pos ⟨by omega, by omega⟩, Int.toNat_natCast, wrapS i (by omega), ha, hb, if_pos (by rw [List.length_singleton]; omega), ih (i + 1) j _ (by omega) (by omega) (by rw [List.length_append, List.length_singleton]; omega), drop_cons' s i T10.dflt (by omega), List.map_cons, List.append_assoc]
    rfl
theorem image_len {m : List Rn} (h : (imageS m).2 = 0) : (imageS m).1.length ≤ 256 := by
  unfold imageS at *
  by_cases h1 : chk m = 0
  · have hc := chk_zero.1 h1
    rw [if_neg (fun h : chk m ≠ 0 => h h1)]
    have := nf_len (spn_in hc.goods)
    rw [List.length_map] at this
    have := hc.len
    show (nf (m.map spn)).length ≤ 256
    omega
  · rw [if_pos h1] at h; exact absurd h h1
theorem inherit_Back_s (k : Nat) (hk : 300000 ≤ k) (l : List Ro) (web : Int × Int) (id : Int) (r : Rc4) : f_u10 k l web id r = some (backS l web.1 web.2 id r) := by
  unfold f_u10 backS
  rw [fam_Cut_s k hk, fam_Cut_v k hk, rect_Check_s, rect_Check_v, Option.isSome_some, if_pos rfl, Option.isSome_some, if_pos rfl]
  by_cases h1 : (cutFull l web.1 web.2 id).2 = 0
  · obtain ⟨reg, ci⟩ := cut_in h1
    generalize (cutFull l web.1 web.2 id) = o at *
    obtain ⟨c1, c2, c3, c4, c5, _⟩ := ci
    have hw := reg.w
    rw [show (o.2 != 0) = false by simp [h1], cond_false, if_neg (fun h : o.2 ≠ 0 => h h1)]
    by_cases h2 : rectE r = 0
    · obtain ⟨r1, r2, r3, r4, r5, r6⟩ := rectE_zero h2
      rw [show (rectE r != 0) = false by simp [h2], cond_false, if_neg (fun h : rectE r ≠ 0 => h h2), iso_Length_s k (by omega) _ c4, iso_Length_v k (by omega) _ c4, Option.isSome_some, if_pos rfl]
      show (bif decide (r.2.1 > o.1.2.1) then some (([] : List Rc4), (20 : Int)) else bif decide (r.2.2.2 > lenS o.1.2.2.2) then some ([], 21) else _) = _
      by_cases h3 : r.2.1 > o.1.2.1
      · rw [decide_eq_true h3, if_pos h3]; rfl
      · rw [decide_eq_false h3, if_neg h3, cond_false]
        by_cases h4 : r.2.2.2 > lenS o.1.2.2.2
        · rw [decide_eq_true h4, if_pos h4]; rfl
        · rw [decide_eq_false h4, if_neg h4, cond_false, iso_Part_s k (by omega), iso_Part_v k (by omega), iso_Image_s k (by omega), iso_Image_v k (by omega)]
          have hp : (partS o.1.2.2.2 r.2.2).2 = 0 := by
            unfold partS
            rw [if_neg (fun h => h (chk_zero.2 c4)), if_neg (by omega)]
          rw [Option.isSome_some, if_pos rfl, hp]
          show (if (some (imageS (partS o.1.2.2.2 r.2.2).1)).isSome = true then (bif ((imageS (partS o.1.2.2.2 r.2.2).1).2 != 0) then _ else _) else none) = _
          rw [Option.isSome_some, if_pos rfl]
          by_cases h5 : (imageS (partS o.1.2.2.2 r.2.2).1).2 = 0
          · have hl := image_len h5
            have hi : ¬ ((imageS (partS o.1.2.2.2 r.2.2).1).2 ≠ 0) := fun h => h h5
            generalize imageS (partS o.1.2.2.2 r.2.2).1 = im at *
            rw [show (im.2 != 0) = false by simp [h5], cond_false, if_neg hi]
            show (bif o.1.2.2.1 then f_u10_25 k k (IntKind.i64.wrap (o.1.2.1 - r.2.1)) (IntKind.i64.wrap (o.1.2.1 - r.1)) im.1 (im.1.length : Int) 0 o.1 [] else f_u10_25 k k r.1 r.2.1 im.1 (im.1.length : Int) 0 o.1 []) = _
            rw [wrap_id (i := o.1.2.1 - r.2.1) (by omega) (by omega), wrap_id (i := o.1.2.1 - r.1) (by omega) (by omega)]
            cases ht : o.1.2.2.1
            · rw [cond_false]
              have := Back_25 k r.1 r.2.1 im.1 (by omega) o.1 (wrap_id (by omega) (by omega)) (wrap_id (by omega) (by omega)) im.1.length 0 k [] (by omega) (by omega) (by simp)
              refine this.trans ?_
              rfl
            · rw [cond_true]
              have := Back_25 k (o.1.2.1 - r.2.1) (o.1.2.1 - r.1) im.1 (by omega) o.1 (wrap_id (by omega) (by omega)) (wrap_id (by omega) (by omega)) im.1.length 0 k [] (by omega) (by omega) (by simp)
              refine this.trans ?_
              rw [show o.1.1 + (o.1.2.1 - r.2.1) = o.1.1 + o.1.2.1 - r.2.1 by omega, show o.1.1 + (o.1.2.1 - r.1) = o.1.1 + o.1.2.1 - r.1 by omega]
              rfl
          · rw [bne_iff_ne.2 h5, if_pos h5]; rfl
    · rw [bne_iff_ne.2 h2, if_pos h2]; rfl
  · rw [bne_iff_ne.2 h1, if_pos h1]; rfl
theorem inherit_Back_v (k : Nat) (hk : 300000 ≤ k) (l : List Ro) (web : Int × Int) (id : Int) (r : Rc4) : v_u10 k l web id r = backS l web.1 web.2 id r := by
  unfold v_u10; rw [inherit_Back_s k hk]; rfl
end Go.AM
namespace Go.AM
open Go Go.Proofs
noncomputable section
abbrev R_u15 : Type := Int × Int
def res_u15 (r : R_u15) : AV := .tup [.r (.v (.int .i64 r.1)), .r (.v (.int .i64 r.2))]
def bo_u15 (c_ : T1.T) (left_ : Int) (right_ : Int) (r : R_u15) : List (Nat × Blk) := []
def args_u15 (c_ : T1.T) (left_ : Int) (right_ : Int) : List AV := [.agg (rvs (enc T1 c_)), .r (.v (.int .i64 left_)), .r (.v (.int .i64 right_))]
def bin_u15 (c_ : T1.T) (left_ : Int) (right_ : Int) : List Blk := []
abbrev C_u15 (c_ : T1.T) (left_ : Int) (right_ : Int) (r : R_u15) : Prop := CC Tryz.prog 22 (args_u15 c_ left_ right_) (bin_u15 c_ left_ right_) (res_u15 r) (bo_u15 c_ left_ right_ r)
def f_u15 (k : Nat) (c_ : T1.T) (left_ : Int) (right_ : Int) : Option R_u15 :=
  bif c_.2.2.1 then
  some ((IntKind.i64.wrap (c_.2.1 - IntKind.i64.wrap (right_ - c_.1)), IntKind.i64.wrap (c_.2.1 - IntKind.i64.wrap (left_ - c_.1))))
  else
  some ((IntKind.i64.wrap (left_ - c_.1), IntKind.i64.wrap (right_ - c_.1)))
def v_u15 (k : Nat) (c_ : T1.T) (left_ : Int) (right_ : Int) : R_u15 := (f_u15 k c_ left_ right_).getD (0, 0)
def ke_u15 (k : Nat) : Ke := (22, fun xs => match xs with
  | [_, _, _] => some [false, false, false]
  | _ => none, fun xs bs => match xs, bs with
  | [.agg qc_, .r (.v (.int .i64 left_)), .r (.v (.int .i64 right_))], [] => (decS [] T1 qc_).bind fun c_ => some (.one (res_u15 (v_u15 k c_ left_ right_), bo_u15 c_ left_ right_ (v_u15 k c_ left_ right_)))
  | _, _ => none)
theorem of_u15 (k : Nat) (c_ : T1.T) (left_ : Int) (right_ : Int) (r : R_u15) (h : f_u15 k c_ left_ right_ = some r) : C_u15 c_ left_ right_ r := by
  refine CC.of (fn := Tryz.f22) (by kernel_rfl) (by kernel_rfl) (by kernel_rfl) (by kernel_rfl) ?_
  unfold f_u15 at h
  exact go (mkK []) [] [] [.autoB [6, 7] true []] (gT h (fun c h => gL h) fun c h => gL h) (by kernel_rfl)
theorem cc_u15 {k : Nat} {c_ : T1.T} {left_ : Int} {right_ : Int} (h : (f_u15 k c_ left_ right_).isSome = true) : C_u15 c_ left_ right_ (v_u15 k c_ left_ right_) := ccG (Φ := C_u15 c_ left_ right_) h (of_u15 k c_ left_ right_)
abbrev R_u13 : Type := List (T4).T × Int
def res_u13 (r : R_u13) : AV := .tup [.r (.ro T4 r.1), .r (.v (.int .i64 r.2))]
def bo_u13 (l_ : List (T2).T) (web_ : T6.T) (spots_ : List (T4).T) (id_ : Int) (r : R_u13) : List (Nat × Blk) := []
def args_u13 (l_ : List (T2).T) (web_ : T6.T) (spots_ : List (T4).T) (id_ : Int) : List AV := [.r (.ro T2 l_), .agg (rvs (enc T6 web_)), .r (.ro T4 spots_), .r (.v (.int .i64 id_))]
def bin_u13 (l_ : List (T2).T) (web_ : T6.T) (spots_ : List (T4).T) (id_ : Int) : List Blk := []
abbrev C_u13 (l_ : List (T2).T) (web_ : T6.T) (spots_ : List (T4).T) (id_ : Int) (r : R_u13) : Prop := CC Tryz.prog 8 (args_u13 l_ web_ spots_ id_) (bin_u13 l_ web_ spots_ id_) (res_u13 r) (bo_u13 l_ web_ spots_ id_ r)
def st_u13_9 (y0 : List (T4).T) (y1 : Int) (y2 : Int) (y3 : T1.T) (y4 : List (T4).T) : St := ⟨mkS 111 [(10, .ptr 1000000 0 0), (13, .own 1000001 0), (37, .r (.ro T4 y0)), (38, .r (.v (.int .i64 y1))), (39, .r (.v (.int .i64 y2)))], [(1000000, 0, .var 57 (rvs (enc T1 y3))), (1000001, 0, .row 62 T4 y4)]⟩
def st_u13_18 (y0 : Int) (y1 : Int) (y2 : List (T4).T) (y3 : Int) (y4 : Int) (y5 : List (T10).T) (y6 : Int) (y7 : Int) (y8 : T1.T) (y9 : List (T4).T) (y10 : T4.T) : St := ⟨mkS 111 [(10, .ptr 1000000 0 0), (13, .own 1000001 0), (15, .ptr 1000002 0 0), (16, .r (.v (.int .i64 y0))), (17, .r (.v (.int .i64 y1))), (37, .r (.ro T4 y2)), (38, .r (.v (.int .i64 y3))), (39, .r (.v (.int .i64 y4))), (84, .r (.ro T10 y5)), (85, .r (.v (.int .i64 y6))), (86, .r (.v (.int .i64 y7)))], [(1000000, 0, .var 57 (rvs (enc T1 y8))), (1000001, 0, .row 62 T4 y9), (1000002, 0, .var 62 (rvs (enc T4 y10)))]⟩
mutual
def f_u13_9 (k : Nat) : Nat → List (T4).T → Int → Int → T1.T → List (T4).T → Option R_u13
  | 0, _, _, _, _, _ => none
  | j + 1, y0, y1, y2, y3, y4 =>
  bif (decide (y2 < y1)) then
  if (0 ≤ y2) ∧ (y2 < (↑y0.length : Int)) then
  bif (decide ((if y3.1 > (y0.getD y2.toNat T4.dflt).1.1 then y3.1 else (y0.getD y2.toNat T4.dflt).1.1) ≥ if IntKind.i64.wrap (y3.1 + y3.2.1) < (y0.getD y2.toNat T4.dflt).1.2.1 then IntKind.i64.wrap (y3.1 + y3.2.1) else (y0.getD y2.toNat T4.dflt).1.2.1)) then
  f_u13_9 k j y0 y1 ((IntKind.i64.wrap (y2 + 1))) y3 y4
  else
  if ((f_u15 k y3 (if y3.1 > (y0.getD y2.toNat T4.dflt).1.1 then y3.1 else (y0.getD y2.toNat T4.dflt).1.1) (if IntKind.i64.wrap (y3.1 + y3.2.1) < (y0.getD y2.toNat T4.dflt).1.2.1 then IntKind.i64.wrap (y3.1 + y3.2.1) else (y0.getD y2.toNat T4.dflt).1.2.1)).isSome = true) then
  if ((f_u20 k y3.2.2.2 (y0.getD y2.toNat T4.dflt).1.2.2).isSome = true) then
  bif ((v_u20 k y3.2.2.2 (y0.getD y2.toNat T4.dflt).1.2.2).2 != (0 : Int)) then
  some (([], (v_u20 k y3.2.2.2 (y0.getD y2.toNat T4.dflt).1.2.2).2))
  else
  f_u13_18 k j ((v_u15 k y3 (if y3.1 > (y0.getD y2.toNat T4.dflt).1.1 then y3.1 else (y0.getD y2.toNat T4.dflt).1.1) (if IntKind.i64.wrap (y3.1 + y3.2.1) < (y0.getD y2.toNat T4.dflt).1.2.1 then IntKind.i64.wrap (y3.1 + y3.2.1) else (y0.getD y2.toNat T4.dflt).1.2.1)).1) ((v_u15 k y3 (if y3.1 > (y0.getD y2.toNat T4.dflt).1.1 then y3.1 else (y0.getD y2.toNat T4.dflt).1.1) (if IntKind.i64.wrap (y3.1 + y3.2.1) < (y0.getD y2.toNat T4.dflt).1.2.1 then IntKind.i64.wrap (y3.1 + y3.2.1) else (y0.getD y2.toNat T4.dflt).1.2.1)).2) y0 y1 y2 ((v_u20 k y3.2.2.2 (y0.getD y2.toNat T4.dflt).1.2.2).1) ((↑ (v_u20 k y3.2.2.2 (y0.getD y2.toNat T4.dflt).1.2.2).1.length : Int)) 0 y3 y4 ((y0.getD y2.toNat T4.dflt))
  else none
  else none
  else none
  else
  bif (decide ((↑y4.length : Int) > (128 : Int))) then
  some (([], 8))
  else
  some ((y4, 0))
def f_u13_18 (k : Nat) : Nat → Int → Int → List (T4).T → Int → Int → List (T10).T → Int → Int → T1.T → List (T4).T → T4.T → Option R_u13
  | 0, _, _, _, _, _, _, _, _, _, _, _ => none
  | j + 1, y0, y1, y2, y3, y4, y5, y6, y7, y8, y9, y10 =>
  bif (decide (y7 < y6)) then
  if (0 ≤ y7) ∧ (y7 < (↑y5.length : Int)) then
  if ((y9.length + [((y0, y1, y5.getD y7.toNat T10.dflt), y10.2)].length) * (48 : Nat) ≤ (140737488355328 : Nat)) then
  f_u13_18 k j y0 y1 y2 y3 y4 y5 y6 ((IntKind.i64.wrap (y7 + 1))) y8 ((y9 ++ [((y0, y1, y5.getD y7.toNat T10.dflt), y10.2)])) y10
  else none
  else none
  else
  f_u13_9 k j y2 y3 ((IntKind.i64.wrap (y4 + 1))) y8 y9
end
def f_u13 (k : Nat) (l_ : List (T2).T) (web_ : T6.T) (spots_ : List (T4).T) (id_ : Int) : Option R_u13 :=
  if ((f_u1 k l_ web_ id_).isSome = true) then
  bif ((v_u1 k l_ web_ id_).2 != (0 : Int)) then
  some (([], (v_u1 k l_ web_ id_).2))
  else
  if ((f_u0 k spots_).isSome = true) then
  bif (v_u0 k spots_ != (0 : Int)) then
  some (([], v_u0 k spots_))
  else
  f_u13_9 k k spots_ ((↑spots_.length : Int)) 0 ((v_u1 k l_ web_ id_).1) ([])
  else none
  else none
def v_u13 (k : Nat) (l_ : List (T2).T) (web_ : T6.T) (spots_ : List (T4).T) (id_ : Int) : R_u13 := (f_u13 k l_ web_ spots_ id_).getD ([], 0)
def ke_u13 (k : Nat) : Ke := (8, fun xs => match xs with
  | [_, _, _, _] => some [false, false, false, false]
  | _ => none, fun xs bs => match xs, bs with
  | [.r (.ro tl__ ql_), .agg qweb_, .r (.ro tspots__ qspots_), .r (.v (.int .i64 id_))], [] => (castL tl__ T2 ql_).bind fun l_ => (decS [] T6 qweb_).bind fun web_ => (castL tspots__ T4 qspots_).bind fun spots_ => some (.one (res_u13 (v_u13 k l_ web_ spots_ id_), bo_u13 l_ web_ spots_ id_ (v_u13 k l_ web_ spots_ id_)))
  | _, _ => none)
def K_u13 (k : Nat) : Calld := mkK [ke_u1 k, ke_u0 k, ke_u15 k, ke_u20 k]
def cs_u13 : List (Nat × List Cmd) := [(9, [.row 13 62 T4, .autoB [10, 13, 37, 38, 39] false []]), (18, [.row 13 62 T4, .autoB [10, 13, 15, 16, 17, 37, 38, 39, 84, 85, 86] false []])]
abbrev E_u13 (l_ : List (T2).T) (web_ : T6.T) (spots_ : List (T4).T) (id_ : Int) (todo : List Item) (st : St) (o : Option R_u13) : Prop := ∀ r, o = some r → Ev Tryz.prog Tryz.f8 0 todo st (res_u13 r) (bo_u13 l_ web_ spots_ id_ r)
theorem ev_u13 (k : Nat) (l_ : List (T2).T) (web_ : T6.T) (spots_ : List (T4).T) (id_ : Int) : ∀ j, (∀ (y0 : List (T4).T) (y1 : Int) (y2 : Int) (y3 : T1.T) (y4 : List (T4).T), E_u13 l_ web_ spots_ id_ (placeAt Tryz.f8 9) (st_u13_9 y0 y1 y2 y3 y4) (f_u13_9 k j y0 y1 y2 y3 y4)) ∧ (∀ (y0 : Int) (y1 : Int) (y2 : List (T4).T) (y3 : Int) (y4 : Int) (y5 : List (T10).T) (y6 : Int) (y7 : Int) (y8 : T1.T) (y9 : List (T4).T) (y10 : T4.T), E_u13 l_ web_ spots_ id_ (placeAt Tryz.f8 18) (st_u13_18 y0 y1 y2 y3 y4 y5 y6 y7 y8 y9 y10) (f_u13_18 k j y0 y1 y2 y3 y4 y5 y6 y7 y8 y9 y10))
  | 0 => ⟨fun _ _ _ _ _ _ h => (nomatch h), fun _ _ _ _ _ _ _ _ _ _ _ _ h => (nomatch h)⟩
  | j + 1 => by
    have ih := @ev_u13 k l_ web_ spots_ id_ j
    refine ⟨?_, ?_⟩
    · intro y0 y1 y2 y3 y4 r h
      rw [f_u13_9] at h
      exact go (K_u13 k) [] cs_u13 [.frz 8 false (RTy.list T4), .autoB [8, 9] true []] (gT h (fun c h => gN2 h fun h => gT h (fun c h => gC h 9 (ih.1 _ _ _ _ _ _)) fun c h => gN1 h (fun q => cc_u15 q) fun h => gN1 h (fun q => cc_u20 q) fun h => gT h (fun c h => gL h) fun c h => gC h 18 (ih.2 _ _ _ _ _ _ _ _ _ _ _ _)) fun c h => gT h (fun c h => gL h) fun c h => gL h) (by kernel_rfl)
    · intro y0 y1 y2 y3 y4 y5 y6 y7 y8 y9 y10 r h
      rw [f_u13_18] at h
      exact go (K_u13 k) [] cs_u13 [.frz 8 false (RTy.list T4), .autoB [8, 9] true []] (gT h (fun c h => gN2 h fun h => gN1 h id fun h => gC h 18 (ih.2 _ _ _ _ _ _ _ _ _ _ _ _)) fun c h => gC h 9 (ih.1 _ _ _ _ _ _)) (by kernel_rfl)
theorem of_u13 (k : Nat) (l_ : List (T2).T) (web_ : T6.T) (spots_ : List (T4).T) (id_ : Int) (r : R_u13) (h : f_u13 k l_ web_ spots_ id_ = some r) : C_u13 l_ web_ spots_ id_ r := by
  refine CC.of (fn := Tryz.f8) (by kernel_rfl) (by kernel_rfl) (by kernel_rfl) (by kernel_rfl) ?_
  unfold f_u13 at h
  exact go (K_u13 k) [] cs_u13 [.frz 8 false (RTy.list T4), .autoB [8, 9] true []] (gN1 h (fun q => cc_u1 q) fun h => gT h (fun c h => gL h) fun c h => gN1 h (fun q => cc_u0 q) fun h => gT h (fun c h => gL h) fun c h => gC h 9 ((ev_u13 k l_ web_ spots_ id_ k).1 _ _ _ _ _ _)) (by kernel_rfl)
theorem cc_u13 {k : Nat} {l_ : List (T2).T} {web_ : T6.T} {spots_ : List (T4).T} {id_ : Int} (h : (f_u13 k l_ web_ spots_ id_).isSome = true) : C_u13 l_ web_ spots_ id_ (v_u13 k l_ web_ spots_ id_) := ccG (Φ := C_u13 l_ web_ spots_ id_) h (of_u13 k l_ web_ spots_ id_)
abbrev R_u82 : Type := T10.T × Bool
def res_u82 (r : R_u82) : AV := .tup [.agg (rvs (enc T10 r.1)), .r (.v (.bool r.2))]
def bo_u82 (c_ : T1.T) (left_ : Int) (right_ : Int) (r : R_u82) : List (Nat × Blk) := []
def args_u82 (c_ : T1.T) (left_ : Int) (right_ : Int) : List AV := [.agg (rvs (enc T1 c_)), .r (.v (.int .i64 left_)), .r (.v (.int .i64 right_))]
def bin_u82 (c_ : T1.T) (left_ : Int) (right_ : Int) : List Blk := []
abbrev C_u82 (c_ : T1.T) (left_ : Int) (right_ : Int) (r : R_u82) : Prop := CC Tryz.prog 26 (args_u82 c_ left_ right_) (bin_u82 c_ left_ right_) (res_u82 r) (bo_u82 c_ left_ right_ r)
def f_u82 (k : Nat) (c_ : T1.T) (left_ : Int) (right_ : Int) : Option R_u82 :=
  bif c_.2.2.1 then
  some (((IntKind.i64.wrap (c_.2.1 - IntKind.i64.wrap ((if IntKind.i64.wrap (c_.1 + c_.2.1) < right_ then IntKind.i64.wrap (c_.1 + c_.2.1) else right_) - c_.1)), IntKind.i64.wrap (c_.2.1 - IntKind.i64.wrap ((if c_.1 > left_ then c_.1 else left_) - c_.1))), decide (IntKind.i64.wrap (c_.2.1 - IntKind.i64.wrap ((if IntKind.i64.wrap (c_.1 + c_.2.1) < right_ then IntKind.i64.wrap (c_.1 + c_.2.1) else right_) - c_.1)) < IntKind.i64.wrap (c_.2.1 - IntKind.i64.wrap ((if c_.1 > left_ then c_.1 else left_) - c_.1)))))
  else
  some (((IntKind.i64.wrap ((if c_.1 > left_ then c_.1 else left_) - c_.1), IntKind.i64.wrap ((if IntKind.i64.wrap (c_.1 + c_.2.1) < right_ then IntKind.i64.wrap (c_.1 + c_.2.1) else right_) - c_.1)), decide (IntKind.i64.wrap ((if c_.1 > left_ then c_.1 else left_) - c_.1) < IntKind.i64.wrap ((if IntKind.i64.wrap (c_.1 + c_.2.1) < right_ then IntKind.i64.wrap (c_.1 + c_.2.1) else right_) - c_.1))))
def v_u82 (k : Nat) (c_ : T1.T) (left_ : Int) (right_ : Int) : R_u82 := (f_u82 k c_ left_ right_).getD ((T10).dflt, false)
def ke_u82 (k : Nat) : Ke := (26, fun xs => match xs with
  | [_, _, _] => some [false, false, false]
  | _ => none, fun xs bs => match xs, bs with
  | [.agg qc_, .r (.v (.int .i64 left_)), .r (.v (.int .i64 right_))], [] => (decS [] T1 qc_).bind fun c_ => some (.one (res_u82 (v_u82 k c_ left_ right_), bo_u82 c_ left_ right_ (v_u82 k c_ left_ right_)))
  | _, _ => none)
theorem of_u82 (k : Nat) (c_ : T1.T) (left_ : Int) (right_ : Int) (r : R_u82) (h : f_u82 k c_ left_ right_ = some r) : C_u82 c_ left_ right_ r := by
  refine CC.of (fn := Tryz.f26) (by kernel_rfl) (by kernel_rfl) (by kernel_rfl) (by kernel_rfl) ?_
  unfold f_u82 at h
  exact go (mkK []) [] [] [.autoB [6, 7] true []] (gT h (fun c h => gL h) fun c h => gL h) (by kernel_rfl)
theorem cc_u82 {k : Nat} {c_ : T1.T} {left_ : Int} {right_ : Int} (h : (f_u82 k c_ left_ right_).isSome = true) : C_u82 c_ left_ right_ (v_u82 k c_ left_ right_) := ccG (Φ := C_u82 c_ left_ right_) h (of_u82 k c_ left_ right_)
abbrev R_u80 : Type := List (T4).T × Int
def res_u80 (r : R_u80) : AV := .tup [.r (.ro T4 r.1), .r (.v (.int .i64 r.2))]
def bo_u80 (l_ : List (T2).T) (web_ : T7.T) (spots_ : List (T4).T) (id_ : Int) (r : R_u80) : List (Nat × Blk) := []
def args_u80 (l_ : List (T2).T) (web_ : T7.T) (spots_ : List (T4).T) (id_ : Int) : List AV := [.r (.ro T2 l_), .agg (rvs (enc T7 web_)), .r (.ro T4 spots_), .r (.v (.int .i64 id_))]
def bin_u80 (l_ : List (T2).T) (web_ : T7.T) (spots_ : List (T4).T) (id_ : Int) : List Blk := []
abbrev C_u80 (l_ : List (T2).T) (web_ : T7.T) (spots_ : List (T4).T) (id_ : Int) (r : R_u80) : Prop := CC Tryz.prog 10 (args_u80 l_ web_ spots_ id_) (bin_u80 l_ web_ spots_ id_) (res_u80 r) (bo_u80 l_ web_ spots_ id_ r)
def st_u80_9 (y0 : List (T4).T) (y1 : Int) (y2 : T1.T) (y3 : List (T4).T) : St := ⟨mkS 120 [(2, .r (.ro T4 y0)), (10, .ptr 1000000 0 0), (13, .own 1000001 0), (14, .r (.v (.int .i64 y1)))], [(1000000, 0, .var 57 (rvs (enc T1 y2))), (1000001, 0, .row 62 T4 y3)]⟩
def st_u80_15 (y0 : List (T4).T) (y1 : Int) (y2 : List (T10).T) (y3 : Int) (y4 : T1.T) (y5 : List (T4).T) (y6 : T10.T) : St := ⟨mkS 120 [(2, .r (.ro T4 y0)), (10, .ptr 1000000 0 0), (13, .own 1000001 0), (14, .r (.v (.int .i64 y1))), (15, .ptr 1000002 0 0), (17, .r (.ro T10 y2)), (19, .r (.v (.int .i64 y3)))], [(1000000, 0, .var 57 (rvs (enc T1 y4))), (1000001, 0, .row 62 T4 y5), (1000002, 0, .var 72 (rvs (enc T10 y6)))]⟩
mutual
def f_u80_9 (k : Nat) : Nat → List (T4).T → Int → T1.T → List (T4).T → Option R_u80
  | 0, _, _, _, _ => none
  | j + 1, y0, y1, y2, y3 =>
  bif (decide (y1 < (↑y0.length : Int))) then
  if (0 ≤ y1) ∧ (y1 < (↑y0.length : Int)) ∧ (0 ≤ y1) ∧ (y1 < (↑y0.length : Int)) ∧ ((f_u82 k y2 (y0.getD y1.toNat T4.dflt).1.1 (y0.getD y1.toNat T4.dflt).1.2.1).isSome = true) then
  bif (! (v_u82 k y2 (y0.getD y1.toNat T4.dflt).1.1 (y0.getD y1.toNat T4.dflt).1.2.1).2) then
  f_u80_9 k j y0 ((IntKind.i64.wrap (y1 + 1))) y2 y3
  else
  if (0 ≤ y1) ∧ (y1 < (↑y0.length : Int)) ∧ (0 ≤ y1) ∧ (y1 < (↑y0.length : Int)) ∧ ((f_u51 k y2.2.2.2 (y0.getD y1.toNat T4.dflt).1.2.2).isSome = true) then
  f_u80_15 k j y0 y1 ((v_u51 k y2.2.2.2 (y0.getD y1.toNat T4.dflt).1.2.2).1) 0 y2 y3 ((v_u82 k y2 (y0.getD y1.toNat T4.dflt).1.1 (y0.getD y1.toNat T4.dflt).1.2.1).1)
  else none
  else none
  else
  bif (decide ((↑y3.length : Int) > (128 : Int))) then
  some (([], 8))
  else
  some ((y3, 0))
def f_u80_15 (k : Nat) : Nat → List (T4).T → Int → List (T10).T → Int → T1.T → List (T4).T → T10.T → Option R_u80
  | 0, _, _, _, _, _, _, _ => none
  | j + 1, y0, y1, y2, y3, y4, y5, y6 =>
  bif (decide (y3 < (↑y2.length : Int))) then
  if (0 ≤ y3) ∧ (y3 < (↑y2.length : Int)) ∧ (0 ≤ y3) ∧ (y3 < (↑y2.length : Int)) then
  if (0 ≤ y1) ∧ (y1 < (↑y0.length : Int)) ∧ (0 ≤ y1) ∧ (y1 < (↑y0.length : Int)) ∧ ((y5.length + [((y6.1, y6.2, y2.getD y3.toNat T10.dflt), (y0.getD y1.toNat T4.dflt).2)].length) * (48 : Nat) ≤ (140737488355328 : Nat)) then
  f_u80_15 k j y0 y1 y2 ((IntKind.i64.wrap (y3 + 1))) y4 ((y5 ++ [((y6.1, y6.2, y2.getD y3.toNat T10.dflt), (y0.getD y1.toNat T4.dflt).2)])) y6
  else none
  else none
  else
  f_u80_9 k j y0 ((IntKind.i64.wrap (y1 + 1))) y4 y5
end
def f_u80 (k : Nat) (l_ : List (T2).T) (web_ : T7.T) (spots_ : List (T4).T) (id_ : Int) : Option R_u80 :=
  if ((f_u71 k l_ web_ id_).isSome = true) then
  bif ((v_u71 k l_ web_ id_).2 != (0 : Int)) then
  some (([], (v_u71 k l_ web_ id_).2))
  else
  if ((f_u65 k spots_).isSome = true) then
  bif (v_u65 k spots_ != (0 : Int)) then
  some (([], v_u65 k spots_))
  else
  f_u80_9 k k spots_ 0 ((v_u71 k l_ web_ id_).1) ([])
  else none
  else none
def v_u80 (k : Nat) (l_ : List (T2).T) (web_ : T7.T) (spots_ : List (T4).T) (id_ : Int) : R_u80 := (f_u80 k l_ web_ spots_ id_).getD ([], 0)
def ke_u80 (k : Nat) : Ke := (10, fun xs => match xs with
  | [_, _, _, _] => some [false, false, false, false]
  | _ => none, fun xs bs => match xs, bs with
  | [.r (.ro tl__ ql_), .agg qweb_, .r (.ro tspots__ qspots_), .r (.v (.int .i64 id_))], [] => (castL tl__ T2 ql_).bind fun l_ => (decS [] T7 qweb_).bind fun web_ => (castL tspots__ T4 qspots_).bind fun spots_ => some (.one (res_u80 (v_u80 k l_ web_ spots_ id_), bo_u80 l_ web_ spots_ id_ (v_u80 k l_ web_ spots_ id_)))
  | _, _ => none)
def K_u80 (k : Nat) : Calld := mkK [ke_u71 k, ke_u65 k, ke_u82 k, ke_u51 k]
def cs_u80 : List (Nat × List Cmd) := [(9, [.row 13 62 T4, .autoB [2, 10, 13, 14] false []]), (15, [.row 13 62 T4, .autoB [2, 10, 13, 14, 15, 17, 19] false []])]
abbrev E_u80 (l_ : List (T2).T) (web_ : T7.T) (spots_ : List (T4).T) (id_ : Int) (todo : List Item) (st : St) (o : Option R_u80) : Prop := ∀ r, o = some r → Ev Tryz.prog Tryz.f10 0 todo st (res_u80 r) (bo_u80 l_ web_ spots_ id_ r)
theorem ev_u80 (k : Nat) (l_ : List (T2).T) (web_ : T7.T) (spots_ : List (T4).T) (id_ : Int) : ∀ j, (∀ (y0 : List (T4).T) (y1 : Int) (y2 : T1.T) (y3 : List (T4).T), E_u80 l_ web_ spots_ id_ (placeAt Tryz.f10 9) (st_u80_9 y0 y1 y2 y3) (f_u80_9 k j y0 y1 y2 y3)) ∧ (∀ (y0 : List (T4).T) (y1 : Int) (y2 : List (T10).T) (y3 : Int) (y4 : T1.T) (y5 : List (T4).T) (y6 : T10.T), E_u80 l_ web_ spots_ id_ (placeAt Tryz.f10 15) (st_u80_15 y0 y1 y2 y3 y4 y5 y6) (f_u80_15 k j y0 y1 y2 y3 y4 y5 y6))
  | 0 => ⟨fun _ _ _ _ _ h => (nomatch h), fun _ _ _ _ _ _ _ _ h => (nomatch h)⟩
  | j + 1 => by
    have ih := @ev_u80 k l_ web_ spots_ id_ j
    refine ⟨?_, ?_⟩
    · intro y0 y1 y2 y3 r h
      rw [f_u80_9] at h
      exact go (K_u80 k) [] cs_u80 [.frz 8 false (RTy.list T4), .autoB [8, 9] true []] (gT h (fun c h => gN h (fun q => conjC q.1 (conjC q.2.1 (conjC q.2.2.1 (conjC q.2.2.2.1 (conjC (cc_u82 q.2.2.2.2) conj0))))) fun h => gT h (fun c h => gC h 9 (ih.1 _ _ _ _ _)) fun c h => gN h (fun q => conjC q.1 (conjC q.2.1 (conjC q.2.2.1 (conjC q.2.2.2.1 (conjC (cc_u51 q.2.2.2.2) conj0))))) fun h => gC h 15 (ih.2 _ _ _ _ _ _ _ _)) fun c h => gT h (fun c h => gL h) fun c h => gL h) (by kernel_rfl)
    · intro y0 y1 y2 y3 y4 y5 y6 r h
      rw [f_u80_15] at h
      exact go (K_u80 k) [] cs_u80 [.frz 8 false (RTy.list T4), .autoB [8, 9] true []] (gT h (fun c h => gN h (fun q => conjC q.1 (conjC q.2.1 (conjC q.2.2.1 (conjC q.2.2.2 conj0)))) fun h => gN h (fun q => conjC q.1 (conjC q.2.1 (conjC q.2.2.1 (conjC q.2.2.2.1 (conjC q.2.2.2.2 conj0))))) fun h => gC h 15 (ih.2 _ _ _ _ _ _ _ _)) fun c h => gC h 9 (ih.1 _ _ _ _ _)) (by kernel_rfl)
theorem of_u80 (k : Nat) (l_ : List (T2).T) (web_ : T7.T) (spots_ : List (T4).T) (id_ : Int) (r : R_u80) (h : f_u80 k l_ web_ spots_ id_ = some r) : C_u80 l_ web_ spots_ id_ r := by
  refine CC.of (fn := Tryz.f10) (by kernel_rfl) (by kernel_rfl) (by kernel_rfl) (by kernel_rfl) ?_
  unfold f_u80 at h
  exact go (K_u80 k) [] cs_u80 [.frz 8 false (RTy.list T4), .autoB [8, 9] true []] (gN1 h (fun q => cc_u71 q) fun h => gT h (fun c h => gL h) fun c h => gN1 h (fun q => cc_u65 q) fun h => gT h (fun c h => gL h) fun c h => gC h 9 ((ev_u80 k l_ web_ spots_ id_ k).1 _ _ _ _ _)) (by kernel_rfl)
theorem cc_u80 {k : Nat} {l_ : List (T2).T} {web_ : T7.T} {spots_ : List (T4).T} {id_ : Int} (h : (f_u80 k l_ web_ spots_ id_).isSome = true) : C_u80 l_ web_ spots_ id_ (v_u80 k l_ web_ spots_ id_) := ccG (Φ := C_u80 l_ web_ spots_ id_) h (of_u80 k l_ web_ spots_ id_)

end
/-! ### defects of rolls -/
def acL (c : Ch) (a b : Int) : Int := if c.2.2.1 = true then c.2.1 - (b - c.1) else a - c.1
def acR (c : Ch) (a b : Int) : Int := if c.2.2.1 = true then c.2.1 - (a - c.1) else b - c.1
def fndl (c : Ch) (x : Spt) : List Spt := if max x.1.1 c.1 ≥ min x.1.2.1 (c.1 + c.2.1) then [] else
  (findS c.2.2.2 x.1.2.2).1.map fun s => ((acL c (max x.1.1 c.1) (min x.1.2.1 (c.1 + c.2.1)), acR c (max x.1.1 c.1) (min x.1.2.1 (c.1 + c.2.1)), s), x.2)
def spGoS (c : Ch) : List Spt → List Spt
  | [] => []
  | x :: t => fndl c x ++ spGoS c t
theorem find_ok0 {m : List Rn} (hc : Chk m) {x : Spt} (hx : SpotOk x) : (findS m x.1.2.2).2 = 0 ∧ (findS m x.1.2.2).1.length ≤ 256 := by
  obtain ⟨⟨a, b, c, d, e, f⟩, _, _, _, _⟩ := hx
  unfold findS
  rw [if_neg (fun h => h (chk_zero.2 hc)), if_neg (by omega)]
  refine ⟨rfl, ?_⟩
  have h1 := nf_len (find_in hc x.1.2.2)
  have h2 := fndS_len m 0 x.1.2.2
  have h3 := hc.len
  show (nf (fndS m 0 x.1.2.2)).length ≤ 256
  omega
theorem Spots_18 (k : Nat) (a b : Int) (sp : List Spt) (len i : Int) (fo : List Sp) (c : Ch) (x : Spt) (hf : fo.length ≤ 256) : ∀ (d q n : Nat) (out : List Spt), q + d = fo.length → out.length ≤ 100000 + q →
    f_u13_18 k (n + d + 1) a b sp len i fo (fo.length : Int) (q : Int) c out x = f_u13_9 k n sp len (IntKind.i64.wrap (i + 1)) c (out ++ (fo.drop q).map fun s => ((a, b, s), x.2)) := by
  intro d
  induction d with
  | zero =>
    intro q n out hq ho
    rw [f_u13_18, decide_eq_false (by omega : ¬ (q : Int) < (fo.length : Int)), cond_false, List.drop_of_length_le (by omega), List.map_nil, List.append_nil]
  | succ d ih =>
    intro q n out hq ho
    rw [show n + (d + 1) + 1 = (n + d + 1) + 1 from rfl, f_u13_18, decide_eq_true (by omega : (q : Int) < (fo.length : Int)), cond_true, if_pos ⟨by omega, by omega⟩, Int.toNat_natCast, if_pos (by rw [List.length_singleton]; omega), wrapS q (by omega), ih (q + 1) n _ (by omega) (by rw [List.length_append, List.length_singleton]; omega), drop_cons' fo q T10.dflt (by omega), List.map_cons, List.append_assoc]
    rfl
set_option maxRecDepth 20000 in
theorem Spots_9 (k : Nat) (hk : 2100 ≤ k) (sp : List Spt) (hs : ∀ x ∈ sp, SpotOk x) (hsl : sp.length ≤ 128) (c : Ch) (c0 : 0 ≤ c.1) (c1 : c.1 + c.2.1 ≤ 12000) (c2 : 0 ≤ c.2.1) (hc : Chk c.2.2.2) : ∀ (d i j : Nat) (out : List Spt), i + d = sp.length → d * 258 < j → out.length ≤ i * 256 →
    f_u13_9 k j sp (sp.length : Int) (i : Int) c out = some (if (out ++ spGoS c (sp.drop i)).length > 128 then ([], 8) else (out ++ spGoS c (sp.drop i), 0)) := by
  intro d
  induction d with
  | zero =>
    intro i j out hi hj ho
    obtain ⟨j, rfl⟩ : ∃ q, j = q + 1 := ⟨j - 1, by omega⟩
    rw [f_u13_9, decide_eq_false (by omega : ¬ (i : Int) < (sp.length : Int)), cond_false, List.drop_of_length_le (by omega), spGoS, List.append_nil]
    by_cases h : out.length > 128
    · rw [decide_eq_true (by omega : (out.length : Int) > 128), if_pos h]; rfl
    · rw [decide_eq_false (by omega : ¬ (out.length : Int) > 128), if_neg h]; rfl
  | succ d ih =>
    intro i j out hi hj ho
    have hx : SpotOk (sp.getD i T4.dflt) := hs _ (getD_mem' _ _ _ (by omega))
    obtain ⟨j, rfl⟩ : ∃ q, j = q + 1 := ⟨j - 1, by omega⟩
    rw [f_u13_9, decide_eq_true (by omega : (i : Int) < (sp.length : Int)), cond_true, if_pos ⟨by omega, by omega⟩, Int.toNat_natCast, drop_cons' sp i T4.dflt (by omega), spGoS]
    generalize sp.getD i T4.dflt = x at *
    obtain ⟨f1, f2⟩ := find_ok0 hc hx
    obtain ⟨⟨x1, x2, x3, x4, x5, x6⟩, _, _, _, _⟩ := _root_.id hx
    rw [wrap_id (i := c.1 + c.2.1) (by omega) (by omega), max_if, min_if2]
    have ha : f_u15 k c (max x.1.1 c.1) (min x.1.2.1 (c.1 + c.2.1)) = some (acL c (max x.1.1 c.1) (min x.1.2.1 (c.1 + c.2.1)), acR c (max x.1.1 c.1) (min x.1.2.1 (c.1 + c.2.1))) := by
      unfold f_u15 acL acR
      rw [wrap_id (i := min x.1.2.1 (c.1 + c.2.1) - c.1) (by omega) (by omega), wrap_id (i := max x.1.1 c.1 - c.1) (by omega) (by omega), wrap_id (by omega) (by omega), wrap_id (by omega) (by omega)]
      cases c.2.2.1 <;> rfl
    unfold fndl
    by_cases h : max x.1.1 c.1 ≥ min x.1.2.1 (c.1 + c.2.1)
    · rw [decide_eq_true h, cond_true, if_pos h, List.nil_append, wrapS i (by omega)]
      exact ih (i + 1) j out (by omega) (by omega) (by omega)
    · obtain ⟨j, rfl⟩ : ∃ q, j = q + (findS c.2.2.2 x.1.2.2).1.length + 1 := ⟨j - (findS c.2.2.2 x.1.2.2).1.length - 1, by omega⟩
      have h18 := Spots_18 k (acL c (max x.1.1 c.1) (min x.1.2.1 (c.1 + c.2.1))) (acR c (max x.1.1 c.1) (min x.1.2.1 (c.1 + c.2.1))) sp (sp.length : Int) (i : Int) (findS c.2.2.2 x.1.2.2).1 c x f2 (findS c.2.2.2 x.1.2.2).1.length 0 j out (by omega) (by omega)
      rw [decide_eq_false h, cond_false, if_neg h]
      unfold v_u15
      rw [ha, iso_Find_s k hk, iso_Find_v k hk, Option.isSome_some, if_pos rfl, Option.isSome_some, if_pos rfl, f1]
      show f_u13_18 k (j + (findS c.2.2.2 x.1.2.2).1.length + 1) _ _ sp _ _ (findS c.2.2.2 x.1.2.2).1 _ 0 c out x = _
      refine h18.trans ?_
      rw [List.drop_zero, wrapS i (by omega), ih (i + 1) j _ (by omega) (by omega) (by rw [List.length_append, List.length_map]; omega), List.append_assoc]
def spotsS (l : List Ro) (W L : Int) (sp : List Spt) (id : Int) : List Spt × Int :=
  if (cutFull l W L id).2 ≠ 0 then ([], (cutFull l W L id).2) else if spotsE sp ≠ 0 then ([], spotsE sp)
  else if (spGoS (cutFull l W L id).1 sp).length > 128 then ([], 8) else (spGoS (cutFull l W L id).1 sp, 0)
theorem inherit_Spots_s (k : Nat) (hk : 300000 ≤ k) (l : List Ro) (web : Int × Int) (sp : List Spt) (id : Int) : f_u13 k l web sp id = some (spotsS l web.1 web.2 sp id) := by
  unfold f_u13 spotsS
  rw [fam_Cut_s k hk, fam_Cut_v k hk, defect_Check_s k (by omega), defect_Check_v k (by omega), Option.isSome_some, if_pos rfl, Option.isSome_some, if_pos rfl]
  by_cases h1 : (cutFull l web.1 web.2 id).2 = 0
  · obtain ⟨reg, ci⟩ := cut_in h1
    have hsz := reg.small 512 id
    generalize (cutFull l web.1 web.2 id) = o at *
    obtain ⟨c1, c2, c3, c4, c5, _⟩ := ci
    have hw := reg.w
    rw [show (o.2 != 0) = false by simp [h1], cond_false, if_neg (fun h : o.2 ≠ 0 => h h1)]
    by_cases h2 : spotsE sp = 0
    · obtain ⟨s1, s2⟩ := spotsE_zero h2
      rw [show (spotsE sp != 0) = false by simp [h2], cond_false, if_neg (fun h : spotsE sp ≠ 0 => h h2)]
      have hwid : 0 ≤ o.1.2.1 := by
        by_cases h : 0 ≤ o.1.2.1
        · exact h
        · exfalso
          rw [c3] at h
          unfold sizeS at h
          by_cases h0 : id = 0
          · rw [if_pos h0] at h; exact h (by show 0 ≤ web.1; omega)
          · rw [if_neg h0] at h
            cases e : look l id with
            | none => rw [e] at h; exact h (Int.le_refl _)
            | some r =>
              rw [e] at h
              have := (reg.wl r (look_some e).1).w0
              exact h (by show 0 ≤ r.2.2.2.1; omega)
      have := Spots_9 k (by omega) sp s2 s1 o.1 c1 (by omega) hwid c4 sp.length 0 k [] (by omega) (by omega) (by simp)
      exact this
    · rw [bne_iff_ne.2 h2, if_pos h2]; rfl
  · rw [bne_iff_ne.2 h1, if_pos h1]; rfl
theorem inherit_Spots_v (k : Nat) (hk : 300000 ≤ k) (l : List Ro) (web : Int × Int) (sp : List Spt) (id : Int) : v_u13 k l web sp id = spotsS l web.1 web.2 sp id := by
  unfold v_u13; rw [inherit_Spots_s k hk]; rfl
end Go.AM
namespace Go.AM
open Go Go.Proofs
noncomputable section
abbrev R_u12 : Type := Bool
def res_u12 (r : R_u12) : AV := .r (.v (.bool r))
def bo_u12 (x_ : T4.T) (z0 : T8.T) (r : R_u12) : List (Nat × Blk) := [(0, .var 50 (rvs (enc T8 z0)))]
def args_u12 (x_ : T4.T) (z0 : T8.T) : List AV := [.agg (rvs (enc T4 x_)), .ptr 0 0 0]
def bin_u12 (x_ : T4.T) (z0 : T8.T) : List Blk := [.var 50 (rvs (enc T8 z0))]
abbrev C_u12 (x_ : T4.T) (z0 : T8.T) (r : R_u12) : Prop := CC Tryz.prog 37 (args_u12 x_ z0) (bin_u12 x_ z0) (res_u12 r) (bo_u12 x_ z0 r)
def f_u12 (k : Nat) (x_ : T4.T) (z0 : T8.T) : Option R_u12 :=
  some ((z0.2.1 == 0 || x_.2.1 == z0.2.1) && decide (x_.2.2 ≥ z0.2.2))
def v_u12 (k : Nat) (x_ : T4.T) (z0 : T8.T) : R_u12 := (f_u12 k x_ z0).getD false
def ke_u12 (k : Nat) : Ke := (37, fun xs => match xs with
  | [_, .ptr _ _ _] => some [false, true]
  | _ => none, fun xs bs => match xs, bs with
  | [.agg qx_, .ptr 0 0 0], [.var 50 qz0] => (decS [] T4 qx_).bind fun x_ => (decS [] T8 qz0).bind fun z0 => some (.one (res_u12 (v_u12 k x_ z0), bo_u12 x_ z0 (v_u12 k x_ z0)))
  | _, _ => none)
theorem of_u12 (k : Nat) (x_ : T4.T) (z0 : T8.T) (r : R_u12) (h : f_u12 k x_ z0 = some r) : C_u12 x_ z0 r := by
  refine CC.of (fn := Tryz.f37) (by kernel_rfl) (by kernel_rfl) (by kernel_rfl) (by kernel_rfl) ?_
  unfold f_u12 at h
  exact go (mkK []) [] [] [.autoB [3] true []] (gL h) (by kernel_rfl)
theorem cc_u12 {k : Nat} {x_ : T4.T} {z0 : T8.T} (h : (f_u12 k x_ z0).isSome = true) : C_u12 x_ z0 (v_u12 k x_ z0) := ccG (Φ := C_u12 x_ z0) h (of_u12 k x_ z0)
abbrev R_u16 : Type := List (T10).T
def res_u16 (r : R_u16) : AV := .r (.ro T10 r)
def bo_u16 (f_a0c0 : T8.T) (l_ : List (T4).T) (r : R_u16) : List (Nat × Blk) := [(0, .var 50 (rvs (enc T8 f_a0c0)))]
def args_u16 (f_a0c0 : T8.T) (l_ : List (T4).T) : List AV := [.agg [.fn (.func 37) [] [.ptr 0 0 0]], .r (.ro T4 l_)]
def bin_u16 (f_a0c0 : T8.T) (l_ : List (T4).T) : List Blk := [.var 50 (rvs (enc T8 f_a0c0))]
abbrev C_u16 (f_a0c0 : T8.T) (l_ : List (T4).T) (r : R_u16) : Prop := CC Tryz.prog 39 (args_u16 f_a0c0 l_) (bin_u16 f_a0c0 l_) (res_u16 r) (bo_u16 f_a0c0 l_ r)
def st_u16_3 (f_a0c0 : T8.T) (l_ : List (T4).T) (y0 : List (T4).T) (y1 : Int) (y2 : Int) (y3 : List (T10).T) : St := ⟨mkS 30 [(2, .ptr 1000000 0 0), (5, .own 1000001 0), (8, .r (.ro T4 y0)), (9, .r (.v (.int .i64 y1))), (10, .r (.v (.int .i64 y2)))], [(0, 0, .var 50 (rvs (enc T8 f_a0c0))), (1000000, 0, .var 84 [.fn ((Fn.func 37)) [] [.ptr 0 0 0]]), (1000001, 0, .row 72 T10 y3)]⟩
def f_u16_3 (k : Nat) (f_a0c0 : T8.T) (l_ : List (T4).T) : Nat → List (T4).T → Int → Int → List (T10).T → Option R_u16
  | 0, _, _, _, _ => none
  | j + 1, y0, y1, y2, y3 =>
  bif (decide (y2 < y1)) then
  if (0 ≤ y2) ∧ (y2 < (↑y0.length : Int)) then
  if ((f_u12 k (y0.getD y2.toNat T4.dflt) f_a0c0).isSome = true) then
  bif (v_u12 k (y0.getD y2.toNat T4.dflt) f_a0c0) then
  if ((y3.length + [(y0.getD y2.toNat T4.dflt).1.2.2].length) * (16 : Nat) ≤ (140737488355328 : Nat)) then
  f_u16_3 k f_a0c0 l_ j y0 y1 ((IntKind.i64.wrap (y2 + 1))) ((y3 ++ [(y0.getD y2.toNat T4.dflt).1.2.2]))
  else none
  else
  f_u16_3 k f_a0c0 l_ j y0 y1 ((IntKind.i64.wrap (y2 + 1))) y3
  else none
  else none
  else
  some y3
def f_u16 (k : Nat) (f_a0c0 : T8.T) (l_ : List (T4).T) : Option R_u16 :=
  f_u16_3 k f_a0c0 l_ k l_ ((↑l_.length : Int)) 0 ([])
def v_u16 (k : Nat) (f_a0c0 : T8.T) (l_ : List (T4).T) : R_u16 := (f_u16 k f_a0c0 l_).getD []
def ke_u16 (k : Nat) : Ke := (39, fun xs => match xs with
  | [.agg [.fn (.func 37) _ _], _] => some [true, false]
  | _ => none, fun xs bs => match xs, bs with
  | [.agg [.fn (.func 37) [] [.ptr 0 0 0]], .r (.ro tl__ ql_)], [.var 50 qf_a0c0] => (castL tl__ T4 ql_).bind fun l_ => (decS [] T8 qf_a0c0).bind fun f_a0c0 => some (.one (res_u16 (v_u16 k f_a0c0 l_), bo_u16 f_a0c0 l_ (v_u16 k f_a0c0 l_)))
  | _, _ => none)
def cs_u16 : List (Nat × List Cmd) := [(3, [.row 5 72 T10, .autoB [2, 5, 8, 9, 10] false []])]
abbrev E_u16 (f_a0c0 : T8.T) (l_ : List (T4).T) (todo : List Item) (st : St) (o : Option R_u16) : Prop := ∀ r, o = some r → Ev Tryz.prog Tryz.f39 1 todo st (res_u16 r) (bo_u16 f_a0c0 l_ r)
theorem ev_u16 (k : Nat) (f_a0c0 : T8.T) (l_ : List (T4).T) : ∀ j, (∀ (y0 : List (T4).T) (y1 : Int) (y2 : Int) (y3 : List (T10).T), E_u16 f_a0c0 l_ (placeAt Tryz.f39 3) (st_u16_3 f_a0c0 l_ y0 y1 y2 y3) (f_u16_3 k f_a0c0 l_ j y0 y1 y2 y3))
  | 0 => fun _ _ _ _ _ h => nomatch h
  | j + 1 => by
    have ih := @ev_u16 k f_a0c0 l_ j
    · intro y0 y1 y2 y3 r h
      rw [f_u16_3] at h
      exact go (mkK [ke_u12 k]) [] cs_u16 [.frz 4 false (RTy.list T10), .autoB [4] true []] (gT h (fun c h => gN2 h fun h => gN1 h (fun q => cc_u12 q) fun h => gT h (fun c h => gN1 h id fun h => gC h 3 (ih _ _ _ _ _)) fun c h => gC h 3 (ih _ _ _ _ _)) fun c h => gL h) (by kernel_rfl)
theorem of_u16 (k : Nat) (f_a0c0 : T8.T) (l_ : List (T4).T) (r : R_u16) (h : f_u16 k f_a0c0 l_ = some r) : C_u16 f_a0c0 l_ r := by
  refine CC.of (fn := Tryz.f39) (by kernel_rfl) (by kernel_rfl) (by kernel_rfl) (by kernel_rfl) ?_
  unfold f_u16 at h
  exact go (mkK [ke_u12 k]) [] cs_u16 [.frz 4 false (RTy.list T10), .autoB [4] true []] (gC h 3 ((ev_u16 k f_a0c0 l_ k) _ _ _ _ _)) (by kernel_rfl)
theorem cc_u16 {k : Nat} {f_a0c0 : T8.T} {l_ : List (T4).T} (h : (f_u16 k f_a0c0 l_).isSome = true) : C_u16 f_a0c0 l_ (v_u16 k f_a0c0 l_) := ccG (Φ := C_u16 f_a0c0 l_) h (of_u16 k f_a0c0 l_)
abbrev R_u11 : Type := Int × Int
def res_u11 (r : R_u11) : AV := .tup [.r (.v (.int .i64 r.1)), .r (.v (.int .i64 r.2))]
def bo_u11 (l_ : List (T2).T) (web_ : T6.T) (spots_ : List (T4).T) (q_ : T8.T) (r : R_u11) : List (Nat × Blk) := []
def args_u11 (l_ : List (T2).T) (web_ : T6.T) (spots_ : List (T4).T) (q_ : T8.T) : List AV := [.r (.ro T2 l_), .agg (rvs (enc T6 web_)), .r (.ro T4 spots_), .agg (rvs (enc T8 q_))]
def bin_u11 (l_ : List (T2).T) (web_ : T6.T) (spots_ : List (T4).T) (q_ : T8.T) : List Blk := []
abbrev C_u11 (l_ : List (T2).T) (web_ : T6.T) (spots_ : List (T4).T) (q_ : T8.T) (r : R_u11) : Prop := CC Tryz.prog 17 (args_u11 l_ web_ spots_ q_) (bin_u11 l_ web_ spots_ q_) (res_u11 r) (bo_u11 l_ web_ spots_ q_ r)
def f_u11 (k : Nat) (l_ : List (T2).T) (web_ : T6.T) (spots_ : List (T4).T) (q_ : T8.T) : Option R_u11 :=
  if ((f_u13 k l_ web_ spots_ q_.1).isSome = true) then
  bif ((v_u13 k l_ web_ spots_ q_.1).2 != (0 : Int)) then
  some ((0, (v_u13 k l_ web_ spots_ q_.1).2))
  else
  if ((f_u16 k q_ (v_u13 k l_ web_ spots_ q_.1).1).isSome = true) ∧ ((f_u92 k (v_u16 k q_ (v_u13 k l_ web_ spots_ q_.1).1)).isSome = true) then
  some (((v_u92 k (v_u16 k q_ (v_u13 k l_ web_ spots_ q_.1).1)).1, (v_u92 k (v_u16 k q_ (v_u13 k l_ web_ spots_ q_.1).1)).2))
  else none
  else none
def v_u11 (k : Nat) (l_ : List (T2).T) (web_ : T6.T) (spots_ : List (T4).T) (q_ : T8.T) : R_u11 := (f_u11 k l_ web_ spots_ q_).getD (0, 0)
def ke_u11 (k : Nat) : Ke := (17, fun xs => match xs with
  | [_, _, _, _] => some [false, false, false, false]
  | _ => none, fun xs bs => match xs, bs with
  | [.r (.ro tl__ ql_), .agg qweb_, .r (.ro tspots__ qspots_), .agg qq_], [] => (castL tl__ T2 ql_).bind fun l_ => (decS [] T6 qweb_).bind fun web_ => (castL tspots__ T4 qspots_).bind fun spots_ => (decS [] T8 qq_).bind fun q_ => some (.one (res_u11 (v_u11 k l_ web_ spots_ q_), bo_u11 l_ web_ spots_ q_ (v_u11 k l_ web_ spots_ q_)))
  | _, _ => none)
theorem of_u11 (k : Nat) (l_ : List (T2).T) (web_ : T6.T) (spots_ : List (T4).T) (q_ : T8.T) (r : R_u11) (h : f_u11 k l_ web_ spots_ q_ = some r) : C_u11 l_ web_ spots_ q_ r := by
  refine CC.of (fn := Tryz.f17) (by kernel_rfl) (by kernel_rfl) (by kernel_rfl) (by kernel_rfl) ?_
  unfold f_u11 at h
  exact go (mkK [ke_u92 k, ke_u13 k, ke_u12 k, ke_u16 k]) [] [] [.autoB [8, 9] true []] (gN1 h (fun q => cc_u13 q) fun h => gT h (fun c h => gL h) fun c h => gN h (fun q => conjC (cc_u16 q.1) (conjC (cc_u92 q.2) conj0)) fun h => gL h) (by kernel_rfl)
theorem cc_u11 {k : Nat} {l_ : List (T2).T} {web_ : T6.T} {spots_ : List (T4).T} {q_ : T8.T} (h : (f_u11 k l_ web_ spots_ q_).isSome = true) : C_u11 l_ web_ spots_ q_ (v_u11 k l_ web_ spots_ q_) := ccG (Φ := C_u11 l_ web_ spots_ q_) h (of_u11 k l_ web_ spots_ q_)
abbrev R_u14 : Type := Int × Int
def res_u14 (r : R_u14) : AV := .tup [.r (.v (.int .i64 r.1)), .r (.v (.int .i64 r.2))]
def bo_u14 (l_ : List (T2).T) (web_ : T6.T) (spots_ : List (T4).T) (id_ : Int) (r : R_u14) : List (Nat × Blk) := []
def args_u14 (l_ : List (T2).T) (web_ : T6.T) (spots_ : List (T4).T) (id_ : Int) : List AV := [.r (.ro T2 l_), .agg (rvs (enc T6 web_)), .r (.ro T4 spots_), .r (.v (.int .i64 id_))]
def bin_u14 (l_ : List (T2).T) (web_ : T6.T) (spots_ : List (T4).T) (id_ : Int) : List Blk := []
abbrev C_u14 (l_ : List (T2).T) (web_ : T6.T) (spots_ : List (T4).T) (id_ : Int) (r : R_u14) : Prop := CC Tryz.prog 11 (args_u14 l_ web_ spots_ id_) (bin_u14 l_ web_ spots_ id_) (res_u14 r) (bo_u14 l_ web_ spots_ id_ r)
def st_u14_6 (y0 : Int) (y1 : List (T4).T) (y2 : Int) (y3 : Int) : St := ⟨mkS 38 [(12, .r (.v (.int .i64 y0))), (26, .r (.ro T4 y1)), (27, .r (.v (.int .i64 y2))), (28, .r (.v (.int .i64 y3)))], []⟩
def f_u14_6 (k : Nat) : Nat → Int → List (T4).T → Int → Int → Option R_u14
  | 0, _, _, _, _ => none
  | j + 1, y0, y1, y2, y3 =>
  bif (decide (y3 < y2)) then
  if (0 ≤ y3) ∧ (y3 < (↑y1.length : Int)) then
  f_u14_6 k j ((if (y1.getD y3.toNat T4.dflt).2.2 > y0 then (y1.getD y3.toNat T4.dflt).2.2 else y0)) y1 y2 ((IntKind.i64.wrap (y3 + 1)))
  else none
  else
  some ((y0, 0))
def f_u14 (k : Nat) (l_ : List (T2).T) (web_ : T6.T) (spots_ : List (T4).T) (id_ : Int) : Option R_u14 :=
  if ((f_u13 k l_ web_ spots_ id_).isSome = true) then
  bif ((v_u13 k l_ web_ spots_ id_).2 != (0 : Int)) then
  some ((0, (v_u13 k l_ web_ spots_ id_).2))
  else
  f_u14_6 k k 0 ((v_u13 k l_ web_ spots_ id_).1) ((↑ (v_u13 k l_ web_ spots_ id_).1.length : Int)) 0
  else none
def v_u14 (k : Nat) (l_ : List (T2).T) (web_ : T6.T) (spots_ : List (T4).T) (id_ : Int) : R_u14 := (f_u14 k l_ web_ spots_ id_).getD (0, 0)
def ke_u14 (k : Nat) : Ke := (11, fun xs => match xs with
  | [_, _, _, _] => some [false, false, false, false]
  | _ => none, fun xs bs => match xs, bs with
  | [.r (.ro tl__ ql_), .agg qweb_, .r (.ro tspots__ qspots_), .r (.v (.int .i64 id_))], [] => (castL tl__ T2 ql_).bind fun l_ => (decS [] T6 qweb_).bind fun web_ => (castL tspots__ T4 qspots_).bind fun spots_ => some (.one (res_u14 (v_u14 k l_ web_ spots_ id_), bo_u14 l_ web_ spots_ id_ (v_u14 k l_ web_ spots_ id_)))
  | _, _ => none)
def cs_u14 : List (Nat × List Cmd) := [(6, [.autoB [12, 26, 27, 28] false []])]
abbrev E_u14 (l_ : List (T2).T) (web_ : T6.T) (spots_ : List (T4).T) (id_ : Int) (todo : List Item) (st : St) (o : Option R_u14) : Prop := ∀ r, o = some r → Ev Tryz.prog Tryz.f11 0 todo st (res_u14 r) (bo_u14 l_ web_ spots_ id_ r)
theorem ev_u14 (k : Nat) (l_ : List (T2).T) (web_ : T6.T) (spots_ : List (T4).T) (id_ : Int) : ∀ j, (∀ (y0 : Int) (y1 : List (T4).T) (y2 : Int) (y3 : Int), E_u14 l_ web_ spots_ id_ (placeAt Tryz.f11 6) (st_u14_6 y0 y1 y2 y3) (f_u14_6 k j y0 y1 y2 y3))
  | 0 => fun _ _ _ _ _ h => (nomatch h)
  | j + 1 => by
    have ih := @ev_u14 k l_ web_ spots_ id_ j
    · intro y0 y1 y2 y3 r h
      rw [f_u14_6] at h
      exact go (mkK [ke_u13 k]) [] cs_u14 [.autoB [8, 9] true []] (gT h (fun c h => gN2 h fun h => gC h 6 (ih _ _ _ _ _)) fun c h => gL h) (by kernel_rfl)
theorem of_u14 (k : Nat) (l_ : List (T2).T) (web_ : T6.T) (spots_ : List (T4).T) (id_ : Int) (r : R_u14) (h : f_u14 k l_ web_ spots_ id_ = some r) : C_u14 l_ web_ spots_ id_ r := by
  refine CC.of (fn := Tryz.f11) (by kernel_rfl) (by kernel_rfl) (by kernel_rfl) (by kernel_rfl) ?_
  unfold f_u14 at h
  exact go (mkK [ke_u13 k]) [] cs_u14 [.autoB [8, 9] true []] (gN1 h (fun q => cc_u13 q) fun h => gT h (fun c h => gL h) fun c h => gC h 6 ((ev_u14 k l_ web_ spots_ id_ k) _ _ _ _ _)) (by kernel_rfl)
theorem cc_u14 {k : Nat} {l_ : List (T2).T} {web_ : T6.T} {spots_ : List (T4).T} {id_ : Int} (h : (f_u14 k l_ web_ spots_ id_).isSome = true) : C_u14 l_ web_ spots_ id_ (v_u14 k l_ web_ spots_ id_) := ccG (Φ := C_u14 l_ web_ spots_ id_) h (of_u14 k l_ web_ spots_ id_)
abbrev R_u67 : Type := Bool
def res_u67 (r : R_u67) : AV := .r (.v (.bool r))
def bo_u67 (a_ : List (T4).T) (b_ : List (T4).T) (r : R_u67) : List (Nat × Blk) := []
def args_u67 (a_ : List (T4).T) (b_ : List (T4).T) : List AV := [.r (.ro T4 a_), .r (.ro T4 b_)]
def bin_u67 (a_ : List (T4).T) (b_ : List (T4).T) : List Blk := []
abbrev C_u67 (a_ : List (T4).T) (b_ : List (T4).T) (r : R_u67) : Prop := CC Tryz.prog 13 (args_u67 a_ b_) (bin_u67 a_ b_) (res_u67 r) (bo_u67 a_ b_ r)
def st_u67_4 (y0 : List (T4).T) (y1 : List (T4).T) (y2 : Int) : St := ⟨mkS 26 [(0, .r (.ro T4 y0)), (1, .r (.ro T4 y1)), (5, .r (.v (.int .i64 y2)))], []⟩
def f_u67_4 (k : Nat) : Nat → List (T4).T → List (T4).T → Int → Option R_u67
  | 0, _, _, _ => none
  | j + 1, y0, y1, y2 =>
  bif (decide (y2 < (↑y0.length : Int))) then
  if (0 ≤ y2) ∧ (y2 < (↑y0.length : Int)) ∧ (0 ≤ y2) ∧ (y2 < (↑y1.length : Int)) then
  bif (!eqT T4 (y0.getD y2.toNat T4.dflt) (y1.getD y2.toNat T4.dflt)) then
  some false
  else
  f_u67_4 k j y0 y1 ((IntKind.i64.wrap (y2 + 1)))
  else none
  else
  some true
def f_u67 (k : Nat) (a_ : List (T4).T) (b_ : List (T4).T) : Option R_u67 :=
  bif ((↑a_.length : Int) != (↑b_.length : Int)) then
  some false
  else
  f_u67_4 k k a_ b_ 0
def v_u67 (k : Nat) (a_ : List (T4).T) (b_ : List (T4).T) : R_u67 := (f_u67 k a_ b_).getD false
def ke_u67 (k : Nat) : Ke := (13, fun xs => match xs with
  | [_, _] => some [false, false]
  | _ => none, fun xs bs => match xs, bs with
  | [.r (.ro ta__ qa_), .r (.ro tb__ qb_)], [] => (castL ta__ T4 qa_).bind fun a_ => (castL tb__ T4 qb_).bind fun b_ => some (.one (res_u67 (v_u67 k a_ b_), bo_u67 a_ b_ (v_u67 k a_ b_)))
  | _, _ => none)
def cs_u67 : List (Nat × List Cmd) := [(4, [.autoB [0, 1, 5] false []])]
abbrev E_u67 (a_ : List (T4).T) (b_ : List (T4).T) (todo : List Item) (st : St) (o : Option R_u67) : Prop := ∀ r, o = some r → Ev Tryz.prog Tryz.f13 0 todo st (res_u67 r) (bo_u67 a_ b_ r)
theorem ev_u67 (k : Nat) (a_ : List (T4).T) (b_ : List (T4).T) : ∀ j, (∀ (y0 : List (T4).T) (y1 : List (T4).T) (y2 : Int), E_u67 a_ b_ (placeAt Tryz.f13 4) (st_u67_4 y0 y1 y2) (f_u67_4 k j y0 y1 y2))
  | 0 => fun _ _ _ _ h => nomatch h
  | j + 1 => by
    have ih := @ev_u67 k a_ b_ j
    · intro y0 y1 y2 r h
      rw [f_u67_4] at h
      exact go (mkK []) [] cs_u67 [.autoB [4] true []] (gT h (fun c h => gN h (fun q => conjC q.1 (conjC q.2.1 (conjC q.2.2.1 (conjC q.2.2.2 conj0)))) fun h => gT h (fun c h => gL h) fun c h => gC h 4 (ih _ _ _ _)) fun c h => gL h) (by kernel_rfl)
theorem of_u67 (k : Nat) (a_ : List (T4).T) (b_ : List (T4).T) (r : R_u67) (h : f_u67 k a_ b_ = some r) : C_u67 a_ b_ r := by
  refine CC.of (fn := Tryz.f13) (by kernel_rfl) (by kernel_rfl) (by kernel_rfl) (by kernel_rfl) ?_
  unfold f_u67 at h
  exact go (mkK []) [] cs_u67 [.autoB [4] true []] (gT h (fun c h => gL h) fun c h => gC h 4 ((ev_u67 k a_ b_ k) _ _ _ _)) (by kernel_rfl)
theorem cc_u67 {k : Nat} {a_ : List (T4).T} {b_ : List (T4).T} (h : (f_u67 k a_ b_).isSome = true) : C_u67 a_ b_ (v_u67 k a_ b_) := ccG (Φ := C_u67 a_ b_) h (of_u67 k a_ b_)
abbrev R_u64 : Type := Bool
def res_u64 (r : R_u64) : AV := .r (.v (.bool r))
def bo_u64 (a_ : List (T3).T) (b_ : List (T3).T) (r : R_u64) : List (Nat × Blk) := []
def args_u64 (a_ : List (T3).T) (b_ : List (T3).T) : List AV := [.r (.ro T3 a_), .r (.ro T3 b_)]
def bin_u64 (a_ : List (T3).T) (b_ : List (T3).T) : List Blk := []
abbrev C_u64 (a_ : List (T3).T) (b_ : List (T3).T) (r : R_u64) : Prop := CC Tryz.prog 16 (args_u64 a_ b_) (bin_u64 a_ b_) (res_u64 r) (bo_u64 a_ b_ r)
def st_u64_4 (y0 : List (T3).T) (y1 : List (T3).T) (y2 : Int) : St := ⟨mkS 26 [(0, .r (.ro T3 y0)), (1, .r (.ro T3 y1)), (5, .r (.v (.int .i64 y2)))], []⟩
def f_u64_4 (k : Nat) : Nat → List (T3).T → List (T3).T → Int → Option R_u64
  | 0, _, _, _ => none
  | j + 1, y0, y1, y2 =>
  bif (decide (y2 < (↑y0.length : Int))) then
  if (0 ≤ y2) ∧ (y2 < (↑y0.length : Int)) ∧ (0 ≤ y2) ∧ (y2 < (↑y1.length : Int)) then
  bif (!eqT T3 (y0.getD y2.toNat T3.dflt) (y1.getD y2.toNat T3.dflt)) then
  some false
  else
  f_u64_4 k j y0 y1 ((IntKind.i64.wrap (y2 + 1)))
  else none
  else
  some true
def f_u64 (k : Nat) (a_ : List (T3).T) (b_ : List (T3).T) : Option R_u64 :=
  bif ((↑a_.length : Int) != (↑b_.length : Int)) then
  some false
  else
  f_u64_4 k k a_ b_ 0
def v_u64 (k : Nat) (a_ : List (T3).T) (b_ : List (T3).T) : R_u64 := (f_u64 k a_ b_).getD false
def ke_u64 (k : Nat) : Ke := (16, fun xs => match xs with
  | [_, _] => some [false, false]
  | _ => none, fun xs bs => match xs, bs with
  | [.r (.ro ta__ qa_), .r (.ro tb__ qb_)], [] => (castL ta__ T3 qa_).bind fun a_ => (castL tb__ T3 qb_).bind fun b_ => some (.one (res_u64 (v_u64 k a_ b_), bo_u64 a_ b_ (v_u64 k a_ b_)))
  | _, _ => none)
def cs_u64 : List (Nat × List Cmd) := [(4, [.autoB [0, 1, 5] false []])]
abbrev E_u64 (a_ : List (T3).T) (b_ : List (T3).T) (todo : List Item) (st : St) (o : Option R_u64) : Prop := ∀ r, o = some r → Ev Tryz.prog Tryz.f16 0 todo st (res_u64 r) (bo_u64 a_ b_ r)
theorem ev_u64 (k : Nat) (a_ : List (T3).T) (b_ : List (T3).T) : ∀ j, (∀ (y0 : List (T3).T) (y1 : List (T3).T) (y2 : Int), E_u64 a_ b_ (placeAt Tryz.f16 4) (st_u64_4 y0 y1 y2) (f_u64_4 k j y0 y1 y2))
  | 0 => fun _ _ _ _ h => nomatch h
  | j + 1 => by
    have ih := @ev_u64 k a_ b_ j
    · intro y0 y1 y2 r h
      rw [f_u64_4] at h
      exact go (mkK []) [] cs_u64 [.autoB [4] true []] (gT h (fun c h => gN h (fun q => conjC q.1 (conjC q.2.1 (conjC q.2.2.1 (conjC q.2.2.2 conj0)))) fun h => gT h (fun c h => gL h) fun c h => gC h 4 (ih _ _ _ _)) fun c h => gL h) (by kernel_rfl)
theorem of_u64 (k : Nat) (a_ : List (T3).T) (b_ : List (T3).T) (r : R_u64) (h : f_u64 k a_ b_ = some r) : C_u64 a_ b_ r := by
  refine CC.of (fn := Tryz.f16) (by kernel_rfl) (by kernel_rfl) (by kernel_rfl) (by kernel_rfl) ?_
  unfold f_u64 at h
  exact go (mkK []) [] cs_u64 [.autoB [4] true []] (gT h (fun c h => gL h) fun c h => gC h 4 ((ev_u64 k a_ b_ k) _ _ _ _)) (by kernel_rfl)
theorem cc_u64 {k : Nat} {a_ : List (T3).T} {b_ : List (T3).T} (h : (f_u64 k a_ b_).isSome = true) : C_u64 a_ b_ (v_u64 k a_ b_) := ccG (Φ := C_u64 a_ b_) h (of_u64 k a_ b_)
abbrev R_u40 : Type := Bool
def res_u40 (r : R_u40) : AV := .r (.v (.bool r))
def bo_u40 (x_ : T5.T) (r : R_u40) : List (Nat × Blk) := []
def args_u40 (x_ : T5.T) : List AV := [.agg (rvs (enc T5 x_))]
def bin_u40 (x_ : T5.T) : List Blk := []
abbrev C_u40 (x_ : T5.T) (r : R_u40) : Prop := CC Tryz.prog 6 (args_u40 x_) (bin_u40 x_) (res_u40 r) (bo_u40 x_ r)
def st_u40_5 (y0 : Int) (y1 : Int) (y2 : T5.T) : St := ⟨mkS 38 [(1, .ptr 1000000 0 0), (3, .r (.v (.int .i64 y0))), (4, .r (.v (.int .i64 y1)))], [(1000000, 0, .var 25 (rvs (enc T5 y2)))]⟩
def f_u40_5 (k : Nat) : Nat → Int → Int → T5.T → Option R_u40
  | 0, _, _, _ => none
  | j + 1, y0, y1, y2 =>
  bif (decide (y1 < (↑ (List.length y2.1) : Int)) && decide (y0 ≤ (300 : Int))) then
  if (0 ≤ y1) ∧ (y1 < (↑ (List.length y2.1) : Int)) then
  f_u40_5 k j ((IntKind.i64.wrap (y0 + (↑ (List.length (List.getD y2.1 y1.toNat T2.dflt).2.2.2.2.2) : Int)))) ((IntKind.i64.wrap (y1 + 1))) y2
  else none
  else
  some (decide (y0 ≤ 300))
def f_u40 (k : Nat) (x_ : T5.T) : Option R_u40 :=
  bif (decide ((↑ (List.length x_.1) : Int) > (40 : Int)) || decide ((↑ (List.length x_.2.2.2) : Int) > (130 : Int))) then
  some false
  else
  f_u40_5 k k 0 0 x_
def v_u40 (k : Nat) (x_ : T5.T) : R_u40 := (f_u40 k x_).getD false
def ke_u40 (k : Nat) : Ke := (6, fun xs => match xs with
  | [_] => some [false]
  | _ => none, fun xs bs => match xs, bs with
  | [.agg qx_], [] => (decS [] T5 qx_).bind fun x_ => some (.one (res_u40 (v_u40 k x_), bo_u40 x_ (v_u40 k x_)))
  | _, _ => none)
def cs_u40 : List (Nat × List Cmd) := [(5, [.autoB [1, 3, 4] false []])]
abbrev E_u40 (x_ : T5.T) (todo : List Item) (st : St) (o : Option R_u40) : Prop := ∀ r, o = some r → Ev Tryz.prog Tryz.f6 0 todo st (res_u40 r) (bo_u40 x_ r)
theorem ev_u40 (k : Nat) (x_ : T5.T) : ∀ j, (∀ (y0 : Int) (y1 : Int) (y2 : T5.T), E_u40 x_ (placeAt Tryz.f6 5) (st_u40_5 y0 y1 y2) (f_u40_5 k j y0 y1 y2))
  | 0 => fun _ _ _ _ h => nomatch h
  | j + 1 => by
    have ih := @ev_u40 k x_ j
    · intro y0 y1 y2 r h
      rw [f_u40_5] at h
      exact go (mkK []) [] cs_u40 [.autoB [2] true []] (gT h (fun c h => gN2 h fun h => gC h 5 (ih _ _ _ _)) fun c h => gL h) (by kernel_rfl)
theorem of_u40 (k : Nat) (x_ : T5.T) (r : R_u40) (h : f_u40 k x_ = some r) : C_u40 x_ r := by
  refine CC.of (fn := Tryz.f6) (by kernel_rfl) (by kernel_rfl) (by kernel_rfl) (by kernel_rfl) ?_
  unfold f_u40 at h
  exact go (mkK []) [] cs_u40 [.autoB [2] true []] (gT h (fun c h => gL h) fun c h => gC h 5 ((ev_u40 k x_ k) _ _ _ _)) (by kernel_rfl)
theorem cc_u40 {k : Nat} {x_ : T5.T} (h : (f_u40 k x_).isSome = true) : C_u40 x_ (v_u40 k x_) := ccG (Φ := C_u40 x_) h (of_u40 k x_)
abbrev R_u38 : Type := T6.T
def res_u38 (r : R_u38) : AV := .agg (rvs (enc T6 r))
def bo_u38 (x_ : T5.T) (r : R_u38) : List (Nat × Blk) := []
def args_u38 (x_ : T5.T) : List AV := [.agg (rvs (enc T5 x_))]
def bin_u38 (x_ : T5.T) : List Blk := []
abbrev C_u38 (x_ : T5.T) (r : R_u38) : Prop := CC Tryz.prog 9 (args_u38 x_) (bin_u38 x_) (res_u38 r) (bo_u38 x_ r)
def f_u38 (k : Nat) (x_ : T5.T) : Option R_u38 :=
  some ((x_.2.1, x_.2.2.1))
def v_u38 (k : Nat) (x_ : T5.T) : R_u38 := (f_u38 k x_).getD (T6).dflt
def ke_u38 (k : Nat) : Ke := (9, fun xs => match xs with
  | [_] => some [false]
  | _ => none, fun xs bs => match xs, bs with
  | [.agg qx_], [] => (decS [] T5 qx_).bind fun x_ => some (.one (res_u38 (v_u38 k x_), bo_u38 x_ (v_u38 k x_)))
  | _, _ => none)
theorem of_u38 (k : Nat) (x_ : T5.T) (r : R_u38) (h : f_u38 k x_ = some r) : C_u38 x_ r := by
  refine CC.of (fn := Tryz.f9) (by kernel_rfl) (by kernel_rfl) (by kernel_rfl) (by kernel_rfl) ?_
  unfold f_u38 at h
  exact go (mkK []) [] [] [.autoB [2] true []] (gL h) (by kernel_rfl)
theorem cc_u38 {k : Nat} {x_ : T5.T} (h : (f_u38 k x_).isSome = true) : C_u38 x_ (v_u38 k x_) := ccG (Φ := C_u38 x_) h (of_u38 k x_)
abbrev R_u39 : Type := T5.T
def res_u39 (r : R_u39) : AV := .agg (rvs (enc T5 r))
def bo_u39  (r : R_u39) : List (Nat × Blk) := []
def args_u39  : List AV := []
def bin_u39  : List Blk := []
abbrev C_u39  (r : R_u39) : Prop := CC Tryz.prog 19 (args_u39 ) (bin_u39 ) (res_u39 r) (bo_u39  r)
def f_u39 (k : Nat)  : Option R_u39 :=
  some (([(1, 0, 20, 50, false, [(899, 400, true)]), (2, 1, 0, 30, true, [(0, 100, false), (150, 50, false)])], (100, (1000, [((10, 45, 680, 820), 3, 40)]))))
def v_u39 (k : Nat)  : R_u39 := (f_u39 k ).getD (T5).dflt
def ke_u39 (k : Nat) : Ke := (19, fun xs => match xs with
  | [] => some []
  | _ => none, fun xs bs => match xs, bs with
  | [], [] => some (.one (res_u39 (v_u39 k ), bo_u39  (v_u39 k )))
  | _, _ => none)
theorem of_u39 (k : Nat)  (r : R_u39) (h : f_u39 k  = some r) : C_u39  r := by
  refine CC.of (fn := Tryz.f19) (by kernel_rfl) (by kernel_rfl) (by kernel_rfl) (by kernel_rfl) ?_
  unfold f_u39 at h
  exact go (mkK []) [] [] [.frz 0 true T5, .autoB [0] true []] (gL h) (by kernel_rfl)
theorem cc_u39 {k : Nat}  (h : (f_u39 k ).isSome = true) : C_u39  (v_u39 k ) := ccG (Φ := C_u39 ) h (of_u39 k )
abbrev R_u37 : Type := Bool
def res_u37 (r : R_u37) : AV := .r (.v (.bool r))
def bo_u37  (r : R_u37) : List (Nat × Blk) := []
def args_u37  : List AV := []
def bin_u37  : List Blk := []
abbrev C_u37  (r : R_u37) : Prop := CC Tryz.prog 7 (args_u37 ) (bin_u37 ) (res_u37 r) (bo_u37  r)
def f_u37 (k : Nat)  : Option R_u37 :=
  if ((f_u39 k ).isSome = true) then
  if ((f_u38 k (v_u39 k)).isSome = true) ∧ ((f_u13 k (v_u39 k).1 (v_u38 k (v_u39 k)) (v_u39 k).2.2.2 1).isSome = true) then
  if ((f_u38 k (v_u39 k)).isSome = true) ∧ ((f_u13 k (v_u39 k).1 (v_u38 k (v_u39 k)) (v_u39 k).2.2.2 2).isSome = true) then
  if ((f_u38 k (v_u39 k)).isSome = true) ∧ ((f_u11 k (v_u39 k).1 (v_u38 k (v_u39 k)) (v_u39 k).2.2.2 (2, 3, 40)).isSome = true) then
  if ((f_u38 k (v_u39 k)).isSome = true) ∧ ((f_u11 k (v_u39 k).1 (v_u38 k (v_u39 k)) (v_u39 k).2.2.2 (2, 3, 41)).isSome = true) then
  if ((f_u38 k (v_u39 k)).isSome = true) ∧ ((f_u10 k (v_u39 k).1 (v_u38 k (v_u39 k)) 2 (0, 30, 90, 110)).isSome = true) then
  if ((f_u38 k (v_u39 k)).isSome = true) ∧ ((f_u14 k (v_u39 k).1 (v_u38 k (v_u39 k)) (v_u39 k).2.2.2 2).isSome = true) then
  bif ((v_u13 k (v_u39 k).1 (v_u38 k (v_u39 k)) (v_u39 k).2.2.2 (1 : Int)).2 != (0 : Int) || (v_u13 k (v_u39 k).1 (v_u38 k (v_u39 k)) (v_u39 k).2.2.2 (2 : Int)).2 != (0 : Int) || (v_u11 k (v_u39 k).1 (v_u38 k (v_u39 k)) (v_u39 k).2.2.2 ((2 : Int), (3 : Int), (40 : Int))).2 != (0 : Int) || (v_u11 k (v_u39 k).1 (v_u38 k (v_u39 k)) (v_u39 k).2.2.2 ((2 : Int), (3 : Int), (41 : Int))).2 != (0 : Int) || (v_u10 k (v_u39 k).1 (v_u38 k (v_u39 k)) (2 : Int) ((0 : Int), (30 : Int), (90 : Int), (110 : Int))).2 != (0 : Int) || (v_u14 k (v_u39 k).1 (v_u38 k (v_u39 k)) (v_u39 k).2.2.2 (2 : Int)).2 != (0 : Int)) then
  some false
  else
  bif (v_u67 k (v_u13 k (v_u39 k).1 (v_u38 k (v_u39 k)) (v_u39 k).2.2.2 (1 : Int)).1 [(((0 : Int), (25 : Int), (80 : Int), (220 : Int)), (3 : Int), (40 : Int))]) then
  bif (true && v_u67 k (v_u13 k (v_u39 k).1 (v_u38 k (v_u39 k)) (v_u39 k).2.2.2 (2 : Int)).1 [(((5 : Int), (30 : Int), (80 : Int), (150 : Int)), (3 : Int), (40 : Int))] && (v_u11 k (v_u39 k).1 (v_u38 k (v_u39 k)) (v_u39 k).2.2.2 ((2 : Int), (3 : Int), (40 : Int))).1 == (70 : Int) && (v_u11 k (v_u39 k).1 (v_u38 k (v_u39 k)) (v_u39 k).2.2.2 ((2 : Int), (3 : Int), (41 : Int))).1 == (0 : Int) && (v_u14 k (v_u39 k).1 (v_u38 k (v_u39 k)) (v_u39 k).2.2.2 (2 : Int)).1 == (40 : Int)) then
  if ((f_u67 k (v_u13 k (v_u39 k).1 (v_u38 k (v_u39 k)) (v_u39 k).2.2.2 1).1 [((0, 25, 80, 220), 3, 40)]).isSome = true) ∧ (v_u67 k (v_u13 k (v_u39 k).1 (v_u38 k (v_u39 k)) (v_u39 k).2.2.2 (1 : Int)).1 [(((0 : Int), (25 : Int), (80 : Int), (220 : Int)), (3 : Int), (40 : Int))] = true) ∧ ((f_u67 k (v_u13 k (v_u39 k).1 (v_u38 k (v_u39 k)) (v_u39 k).2.2.2 2).1 [((5, 30, 80, 150), 3, 40)]).isSome = true) ∧ ((true && v_u67 k (v_u13 k (v_u39 k).1 (v_u38 k (v_u39 k)) (v_u39 k).2.2.2 (2 : Int)).1 [(((5 : Int), (30 : Int), (80 : Int), (150 : Int)), (3 : Int), (40 : Int))] && (v_u11 k (v_u39 k).1 (v_u38 k (v_u39 k)) (v_u39 k).2.2.2 ((2 : Int), (3 : Int), (40 : Int))).1 == (70 : Int) && (v_u11 k (v_u39 k).1 (v_u38 k (v_u39 k)) (v_u39 k).2.2.2 ((2 : Int), (3 : Int), (41 : Int))).1 == (0 : Int) && (v_u14 k (v_u39 k).1 (v_u38 k (v_u39 k)) (v_u39 k).2.2.2 (2 : Int)).1 == (40 : Int)) = true) ∧ ((f_u64 k (v_u10 k (v_u39 k).1 (v_u38 k (v_u39 k)) 2 (0, 30, 90, 110)).1 [(20, 50, 740, 750), (20, 50, 800, 810)]).isSome = true) then
  some (true && v_u64 k (v_u10 k (v_u39 k).1 (v_u38 k (v_u39 k)) 2 (0, 30, 90, 110)).1 [(20, 50, 740, 750), (20, 50, 800, 810)])
  else none
  else
  if ((f_u67 k (v_u13 k (v_u39 k).1 (v_u38 k (v_u39 k)) (v_u39 k).2.2.2 1).1 [((0, 25, 80, 220), 3, 40)]).isSome = true) ∧ (v_u67 k (v_u13 k (v_u39 k).1 (v_u38 k (v_u39 k)) (v_u39 k).2.2.2 (1 : Int)).1 [(((0 : Int), (25 : Int), (80 : Int), (220 : Int)), (3 : Int), (40 : Int))] = true) ∧ ((f_u67 k (v_u13 k (v_u39 k).1 (v_u38 k (v_u39 k)) (v_u39 k).2.2.2 2).1 [((5, 30, 80, 150), 3, 40)]).isSome = true) ∧ ((true && v_u67 k (v_u13 k (v_u39 k).1 (v_u38 k (v_u39 k)) (v_u39 k).2.2.2 (2 : Int)).1 [(((5 : Int), (30 : Int), (80 : Int), (150 : Int)), (3 : Int), (40 : Int))] && (v_u11 k (v_u39 k).1 (v_u38 k (v_u39 k)) (v_u39 k).2.2.2 ((2 : Int), (3 : Int), (40 : Int))).1 == (70 : Int) && (v_u11 k (v_u39 k).1 (v_u38 k (v_u39 k)) (v_u39 k).2.2.2 ((2 : Int), (3 : Int), (41 : Int))).1 == (0 : Int) && (v_u14 k (v_u39 k).1 (v_u38 k (v_u39 k)) (v_u39 k).2.2.2 (2 : Int)).1 == (40 : Int)) = false) then
  some false
  else none
  else
  bif (false && (v_u11 k (v_u39 k).1 (v_u38 k (v_u39 k)) (v_u39 k).2.2.2 ((2 : Int), (3 : Int), (40 : Int))).1 == (70 : Int) && (v_u11 k (v_u39 k).1 (v_u38 k (v_u39 k)) (v_u39 k).2.2.2 ((2 : Int), (3 : Int), (41 : Int))).1 == (0 : Int) && (v_u14 k (v_u39 k).1 (v_u38 k (v_u39 k)) (v_u39 k).2.2.2 (2 : Int)).1 == (40 : Int)) then
  if ((f_u67 k (v_u13 k (v_u39 k).1 (v_u38 k (v_u39 k)) (v_u39 k).2.2.2 1).1 [((0, 25, 80, 220), 3, 40)]).isSome = true) ∧ (v_u67 k (v_u13 k (v_u39 k).1 (v_u38 k (v_u39 k)) (v_u39 k).2.2.2 (1 : Int)).1 [(((0 : Int), (25 : Int), (80 : Int), (220 : Int)), (3 : Int), (40 : Int))] = false) ∧ ((false && (v_u11 k (v_u39 k).1 (v_u38 k (v_u39 k)) (v_u39 k).2.2.2 ((2 : Int), (3 : Int), (40 : Int))).1 == (70 : Int) && (v_u11 k (v_u39 k).1 (v_u38 k (v_u39 k)) (v_u39 k).2.2.2 ((2 : Int), (3 : Int), (41 : Int))).1 == (0 : Int) && (v_u14 k (v_u39 k).1 (v_u38 k (v_u39 k)) (v_u39 k).2.2.2 (2 : Int)).1 == (40 : Int)) = true) ∧ ((f_u64 k (v_u10 k (v_u39 k).1 (v_u38 k (v_u39 k)) 2 (0, 30, 90, 110)).1 [(20, 50, 740, 750), (20, 50, 800, 810)]).isSome = true) then
  some (true && v_u64 k (v_u10 k (v_u39 k).1 (v_u38 k (v_u39 k)) 2 (0, 30, 90, 110)).1 [(20, 50, 740, 750), (20, 50, 800, 810)])
  else none
  else
  if ((f_u67 k (v_u13 k (v_u39 k).1 (v_u38 k (v_u39 k)) (v_u39 k).2.2.2 1).1 [((0, 25, 80, 220), 3, 40)]).isSome = true) ∧ (v_u67 k (v_u13 k (v_u39 k).1 (v_u38 k (v_u39 k)) (v_u39 k).2.2.2 (1 : Int)).1 [(((0 : Int), (25 : Int), (80 : Int), (220 : Int)), (3 : Int), (40 : Int))] = false) ∧ ((false && (v_u11 k (v_u39 k).1 (v_u38 k (v_u39 k)) (v_u39 k).2.2.2 ((2 : Int), (3 : Int), (40 : Int))).1 == (70 : Int) && (v_u11 k (v_u39 k).1 (v_u38 k (v_u39 k)) (v_u39 k).2.2.2 ((2 : Int), (3 : Int), (41 : Int))).1 == (0 : Int) && (v_u14 k (v_u39 k).1 (v_u38 k (v_u39 k)) (v_u39 k).2.2.2 (2 : Int)).1 == (40 : Int)) = false) then
  some false
  else none
  else none
  else none
  else none
  else none
  else none
  else none
  else none
def v_u37 (k : Nat)  : R_u37 := (f_u37 k ).getD false
def ke_u37 (k : Nat) : Ke := (7, fun xs => match xs with
  | [] => some []
  | _ => none, fun xs bs => match xs, bs with
  | [], [] => some (.one (res_u37 (v_u37 k ), bo_u37  (v_u37 k )))
  | _, _ => none)
theorem of_u37 (k : Nat)  (r : R_u37) (h : f_u37 k  = some r) : C_u37  r := by
  refine CC.of (fn := Tryz.f7) (by kernel_rfl) (by kernel_rfl) (by kernel_rfl) (by kernel_rfl) ?_
  unfold f_u37 at h
  exact go (mkK [ke_u13 k, ke_u38 k, ke_u14 k, ke_u67 k, ke_u10 k, ke_u64 k, ke_u11 k, ke_u39 k]) [] [] [.autoB [0] true []] (gN1 h (fun q => cc_u39 q) fun h => gN h (fun q => conjC (cc_u38 q.1) (conjC (cc_u13 q.2) conj0)) fun h => gN h (fun q => conjC (cc_u38 q.1) (conjC (cc_u13 q.2) conj0)) fun h => gN h (fun q => conjC (cc_u38 q.1) (conjC (cc_u11 q.2) conj0)) fun h => gN h (fun q => conjC (cc_u38 q.1) (conjC (cc_u11 q.2) conj0)) fun h => gN h (fun q => conjC (cc_u38 q.1) (conjC (cc_u10 q.2) conj0)) fun h => gN h (fun q => conjC (cc_u38 q.1) (conjC (cc_u14 q.2) conj0)) fun h => gT h (fun c h => gL h) fun c h => gT h (fun c h => gT h (fun c h => gN h (fun q => conjC (cc_u67 q.1) (conjC q.2.1 (conjC (cc_u67 q.2.2.1) (conjC q.2.2.2.1 (conjC (cc_u64 q.2.2.2.2) conj0))))) fun h => gL h) fun c h => gN h (fun q => conjC (cc_u67 q.1) (conjC q.2.1 (conjC (cc_u67 q.2.2.1) (conjC q.2.2.2 conj0)))) fun h => gL h) fun c h => gT h (fun c h => gN h (fun q => conjC (cc_u67 q.1) (conjC q.2.1 (conjC q.2.2.1 (conjC (cc_u64 q.2.2.2) conj0)))) fun h => gL h) fun c h => gN h (fun q => conjC (cc_u67 q.1) (conjC q.2.1 (conjC q.2.2 conj0))) fun h => gL h) (by kernel_rfl)
theorem cc_u37 {k : Nat}  (h : (f_u37 k ).isSome = true) : C_u37  (v_u37 k ) := ccG (Φ := C_u37 ) h (of_u37 k )
end
abbrev Qn := Int × Int × Int
def cntQ (q : Qn) (x : Spt) : Bool := (q.2.1 == 0 || x.2.1 == q.2.1) && decide (x.2.2 ≥ q.2.2)
theorem pos_3 (k : Nat) (q : Qn) (l0 l : List Spt) (hl : l.length ≤ 128) : ∀ (d i j : Nat) (out : List Sp), i + d = l.length → d < j → out.length ≤ i →
    f_u16_3 k q l0 j l (l.length : Int) (i : Int) out = some (out ++ ((l.drop i).filter (cntQ q)).map (fun x => x.1.2.2)) := by
  intro d
  induction d with
  | zero =>
    intro i j out hi hj ho
    obtain ⟨j, rfl⟩ : ∃ q, j = q + 1 := ⟨j - 1, by omega⟩
    rw [f_u16_3, decide_eq_false (by omega : ¬ (i : Int) < (l.length : Int)), cond_false, List.drop_of_length_le (by omega), List.filter_nil, List.map_nil, List.append_nil]
  | succ d ih =>
    intro i j out hi hj ho
    obtain ⟨j, rfl⟩ : ∃ q, j = q + 1 := ⟨j - 1, by omega⟩
    have h1 : ∀ x, f_u12 k x q = some (cntQ q x) := fun x => rfl
    have h2 : ∀ x, v_u12 k x q = cntQ q x := fun x => rfl
    rw [f_u16_3, decide_eq_true (by omega : (i : Int) < (l.length : Int)), cond_true, if_pos ⟨by omega, by omega⟩, Int.toNat_natCast, h1, h2, Option.isSome_some, if_pos rfl, if_pos (by rw [List.length_singleton]; omega), wrapS i (by omega), drop_cons' l i T4.dflt (by omega), List.filter_cons, ih (i + 1) j _ (by omega) (by omega) (by rw [List.length_append, List.length_singleton]; omega), ih (i + 1) j _ (by omega) (by omega) (by omega)]
    cases cntQ q (l.getD i T4.dflt)
    · rfl
    · rw [cond_true, if_pos rfl, List.map_cons, List.append_assoc]; rfl
theorem spotsS_len {l : List Ro} {W L id : Int} {sp : List Spt} : (spotsS l W L sp id).1.length ≤ 128 := by
  unfold spotsS
  by_cases h1 : (cutFull l W L id).2 ≠ 0
  · rw [if_pos h1]; exact Nat.zero_le _
  · rw [if_neg h1]
    by_cases h2 : spotsE sp ≠ 0
    · rw [if_pos h2]; exact Nat.zero_le _
    · rw [if_neg h2]
      by_cases h3 : (spGoS (cutFull l W L id).1 sp).length > 128
      · rw [if_pos h3]; exact Nat.zero_le _
      · rw [if_neg h3]; show (spGoS (cutFull l W L id).1 sp).length ≤ 128; omega
def posS (l : List Ro) (W L : Int) (sp : List Spt) (q : Qn) : List Sp := ((spotsS l W L sp q.1).1.filter (cntQ q)).map (fun x => x.1.2.2)
def lengthS (l : List Ro) (W L : Int) (sp : List Spt) (q : Qn) : Int × Int := if (spotsS l W L sp q.1).2 ≠ 0 then (0, (spotsS l W L sp q.1).2) else totalS (posS l W L sp q)
theorem inherit_Length_s (k : Nat) (hk : 300000 ≤ k) (l : List Ro) (web : Int × Int) (sp : List Spt) (q : Qn) : f_u11 k l web sp q = some (lengthS l web.1 web.2 sp q) := by
  have hp : f_u16 k q (spotsS l web.1 web.2 sp q.1).1 = some (posS l web.1 web.2 sp q) := by
    have hl := spotsS_len (l := l) (W := web.1) (L := web.2) (id := q.1) (sp := sp)
    have := pos_3 k q (spotsS l web.1 web.2 sp q.1).1 (spotsS l web.1 web.2 sp q.1).1 hl (spotsS l web.1 web.2 sp q.1).1.length 0 k [] (by omega) (by omega) (by simp)
    exact this
  have hv : v_u16 k q (spotsS l web.1 web.2 sp q.1).1 = posS l web.1 web.2 sp q := by unfold v_u16; rw [hp]; rfl
  unfold f_u11 lengthS
  rw [inherit_Spots_s k hk, inherit_Spots_v k hk, Option.isSome_some, if_pos rfl]
  by_cases h : (spotsS l web.1 web.2 sp q.1).2 = 0
  · rw [show ((spotsS l web.1 web.2 sp q.1).2 != 0) = false by simp [h], cond_false, if_neg (fun h' : (spotsS l web.1 web.2 sp q.1).2 ≠ 0 => h' h), hp, hv, span_Total_s k (by omega), span_Total_v k (by omega), if_pos ⟨rfl, rfl⟩]
  · rw [bne_iff_ne.2 h, if_pos h]; rfl
theorem inherit_Length_v (k : Nat) (hk : 300000 ≤ k) (l : List Ro) (web : Int × Int) (sp : List Spt) (q : Qn) : v_u11 k l web sp q = lengthS l web.1 web.2 sp q := by
  unfold v_u11; rw [inherit_Length_s k hk]; rfl
def topS : List Spt → Int → Int
  | [], n => n
  | x :: t, n => topS t (if x.2.2 > n then x.2.2 else n)
theorem Worst_6 (k : Nat) (l : List Spt) (hl : l.length ≤ 128) : ∀ (d i j : Nat) (n : Int), i + d = l.length → d < j → f_u14_6 k j n l (l.length : Int) (i : Int) = some (topS (l.drop i) n, 0) := by
  intro d
  induction d with
  | zero =>
    intro i j n hi hj
    obtain ⟨j, rfl⟩ : ∃ q, j = q + 1 := ⟨j - 1, by omega⟩
    rw [f_u14_6, decide_eq_false (by omega : ¬ (i : Int) < (l.length : Int)), cond_false, List.drop_of_length_le (by omega)]; rfl
  | succ d ih =>
    intro i j n hi hj
    obtain ⟨j, rfl⟩ : ∃ q, j = q + 1 := ⟨j - 1, by omega⟩
    rw [f_u14_6, decide_eq_true (by omega : (i : Int) < (l.length : Int)), cond_true, if_pos ⟨by omega, by omega⟩, Int.toNat_natCast, wrapS i (by omega), drop_cons' l i T4.dflt (by omega), topS, ih (i + 1) j _ (by omega) (by omega)]
def worstS (l : List Ro) (W L : Int) (sp : List Spt) (id : Int) : Int × Int := if (spotsS l W L sp id).2 ≠ 0 then (0, (spotsS l W L sp id).2) else (topS (spotsS l W L sp id).1 0, 0)
theorem inherit_Worst_s (k : Nat) (hk : 300000 ≤ k) (l : List Ro) (web : Int × Int) (sp : List Spt) (id : Int) : f_u14 k l web sp id = some (worstS l web.1 web.2 sp id) := by
  have hl := spotsS_len (l := l) (W := web.1) (L := web.2) (id := id) (sp := sp)
  unfold f_u14 worstS
  rw [inherit_Spots_s k hk, inherit_Spots_v k hk, Option.isSome_some, if_pos rfl]
  by_cases h : (spotsS l web.1 web.2 sp id).2 = 0
  · rw [show ((spotsS l web.1 web.2 sp id).2 != 0) = false by simp [h], cond_false, if_neg (fun h' : (spotsS l web.1 web.2 sp id).2 ≠ 0 => h' h)]
    exact Worst_6 k _ hl (spotsS l web.1 web.2 sp id).1.length 0 k 0 (by omega) (by omega)
  · rw [bne_iff_ne.2 h, if_pos h]; rfl
theorem inherit_Worst_v (k : Nat) (hk : 300000 ≤ k) (l : List Ro) (web : Int × Int) (sp : List Spt) (id : Int) : v_u14 k l web sp id = worstS l web.1 web.2 sp id := by
  unfold v_u14; rw [inherit_Worst_s k hk]; rfl
theorem eqT_rc (p : Rc4) : eqT T3 p p = true := by
  show ((p.1 == p.1) && ((p.2.1 == p.2.1) && ((p.2.2.1 == p.2.2.1) && (p.2.2.2 == p.2.2.2)))) = true
  simp
theorem eqT_spt (p : Spt) : eqT T4 p p = true := by
  show (((p.1.1 == p.1.1) && ((p.1.2.1 == p.1.2.1) && ((p.1.2.2.1 == p.1.2.2.1) && (p.1.2.2.2 == p.1.2.2.2)))) && ((p.2.1 == p.2.1) && (p.2.2 == p.2.2))) = true
  simp
theorem same15 (k : Nat) (a : List Rc4) (hl : a.length ≤ 300) (hk : 400 ≤ k) : f_u64 k a a = some true := by
  have : ∀ (d i j : Nat), i + d = a.length → d < j → f_u64_4 k j a a (i : Int) = some true := by
    intro d
    induction d with
    | zero =>
      intro i j hi hj
      obtain ⟨j, rfl⟩ : ∃ q, j = q + 1 := ⟨j - 1, by omega⟩
      rw [f_u64_4, decide_eq_false (by omega : ¬ (i : Int) < (a.length : Int)), cond_false]
    | succ d ih =>
      intro i j hi hj
      obtain ⟨j, rfl⟩ : ∃ q, j = q + 1 := ⟨j - 1, by omega⟩
      rw [f_u64_4, decide_eq_true (by omega : (i : Int) < (a.length : Int)), cond_true, if_pos ⟨by omega, by omega, by omega, by omega⟩, eqT_rc, wrapS i (by omega)]
      exact ih (i + 1) j (by omega) (by omega)
  unfold f_u64
  rw [bne_self_eq_false, cond_false]
  exact this a.length 0 k (by omega) (by omega)
theorem same36 (k : Nat) (a : List Spt) (hl : a.length ≤ 300) (hk : 400 ≤ k) : f_u67 k a a = some true := by
  have : ∀ (d i j : Nat), i + d = a.length → d < j → f_u67_4 k j a a (i : Int) = some true := by
    intro d
    induction d with
    | zero =>
      intro i j hi hj
      obtain ⟨j, rfl⟩ : ∃ q, j = q + 1 := ⟨j - 1, by omega⟩
      rw [f_u67_4, decide_eq_false (by omega : ¬ (i : Int) < (a.length : Int)), cond_false]
    | succ d ih =>
      intro i j hi hj
      obtain ⟨j, rfl⟩ : ∃ q, j = q + 1 := ⟨j - 1, by omega⟩
      rw [f_u67_4, decide_eq_true (by omega : (i : Int) < (a.length : Int)), cond_true, if_pos ⟨by omega, by omega, by omega, by omega⟩, eqT_spt, wrapS i (by omega)]
      exact ih (i + 1) j (by omega) (by omega)
  unfold f_u67
  rw [bne_self_eq_false, cond_false]
  exact this a.length 0 k (by omega) (by omega)
def sa : Ro := (1, 0, 20, 50, false, [(899, 400, true)])
def sb : Ro := (2, 1, 0, 30, true, [(0, 100, false), (150, 50, false)])
def sl : List Ro := [sa, sb]
def ssp : List Spt := [((10, 45, 680, 820), 3, 40)]
theorem sb_single : singleS [(0, 100, false), (150, 50, false)] = true := by
  have hg : goods [((0, 100, false) : Rn), (150, 50, false)] := ⟨by decide, by decide, trivial⟩
  have e : nf ([((0, 100, false) : Rn), (150, 50, false)].map spn) = [((0, 100, false) : Rn), (150, 50, false)].map spn := nf_self (spn_in hg) ⟨by decide, by decide, by decide, by decide, trivial⟩
  unfold singleS
  rw [e]
  decide
theorem sl_reg : Reg sl 100 1000 := by
  have h1 : singleS [(899, 400, true)] = true := single_one _ (by decide) (by decide) ⟨by decide, by decide, trivial⟩
  refine ⟨by decide, by decide, by decide, ?_⟩
  have o1 : Okp 100 1000 ([] ++ [sa]) := .snoc [] sa .nil ⟨by decide, by decide, .inl rfl, ⟨by decide, by decide, by decide, chk_zero.1 (by decide), by decide, h1, by decide⟩⟩ rfl rfl
  exact .snoc [sa] sb o1 ⟨by decide, by decide, .inr ⟨sa, rfl⟩, ⟨by decide, by decide, by decide, chk_zero.1 (by decide), by decide, sb_single, by decide⟩⟩ rfl rfl
theorem sl_err1 : errS sl 100 1000 1 = 0 := errS_zero.2 ⟨sl_reg, .inr ⟨sa, rfl⟩⟩
theorem sl_err2 : errS sl 100 1000 2 = 0 := errS_zero.2 ⟨sl_reg, .inr ⟨sb, rfl⟩⟩
theorem sl_cut1 : cutFull sl 100 1000 1 = ((20, 50, false, [(899, 400, true)]), 0) := by
  unfold cutFull
  rw [if_neg (fun h : errS sl 100 1000 1 ≠ 0 => h sl_err1)]
  rfl
theorem sl_cut2 : cutFull sl 100 1000 2 = ((20, 30, true, [(899, 100, true), (749, 50, true)]), 0) := by
  unfold cutFull
  rw [if_neg (fun h : errS sl 100 1000 2 ≠ 0 => h sl_err2)]
  rfl
theorem find1 : findS [(899, 400, true)] (680, 820) = ([(80, 220)], 0) := by
  have e : fndS [((899, 400, true) : Rn)] 0 (680, 820) = [(80, 220)] := rfl
  have n : nf [((80, 220) : Sp)] = [(80, 220)] := by
    rw [← e]; exact nf_self (find_in (chk_zero.1 (by decide)) _) (by rw [e]; exact ⟨by decide, by decide, trivial⟩)
  unfold findS
  rw [e, n]
  rfl
theorem find2 : findS [(899, 100, true), (749, 50, true)] (680, 820) = ([(80, 150)], 0) := by
  have e : fndS [((899, 100, true) : Rn), (749, 50, true)] 0 (680, 820) = [(80, 100), (100, 150)] := rfl
  have hi := find_in (m := [((899, 100, true) : Rn), (749, 50, true)]) (chk_zero.1 (by decide)) (680, 820)
  rw [e] at hi
  have n : nf [((80, 100) : Sp), (100, 150)] = [(80, 150)] := (nf_uniq hi (show Nr (-1) [((80, 150) : Sp)] from ⟨by decide, by decide, trivial⟩) (fun x => by
    rw [has_iff, has_iff]
    simp only [List.mem_cons, List.not_mem_nil, or_false, exists_eq_or_imp, exists_eq_left]
    omega)).symm
  unfold findS
  rw [e, n]
  rfl
theorem sp1 : spotsS sl 100 1000 ssp 1 = ([((0, 25, 80, 220), 3, 40)], 0) := by
  unfold spotsS
  rw [sl_cut1]
  have e : spGoS (20, 50, false, [(899, 400, true)]) ssp = [((0, 25, 80, 220), 3, 40)] := by
    unfold ssp spGoS spGoS fndl
    show (if _ then _ else ((findS [(899, 400, true)] (680, 820)).1.map _)) ++ [] = _
    rw [find1]; rfl
  show (if (0 : Int) ≠ 0 then _ else if spotsE ssp ≠ 0 then _ else if (spGoS (20, 50, false, [(899, 400, true)]) ssp).length > 128 then _ else (spGoS (20, 50, false, [(899, 400, true)]) ssp, 0)) = _
  rw [e]; rfl
theorem sp2 : spotsS sl 100 1000 ssp 2 = ([((5, 30, 80, 150), 3, 40)], 0) := by
  unfold spotsS
  rw [sl_cut2]
  have e : spGoS (20, 30, true, [(899, 100, true), (749, 50, true)]) ssp = [((5, 30, 80, 150), 3, 40)] := by
    unfold ssp spGoS spGoS fndl
    show (if _ then _ else ((findS [(899, 100, true), (749, 50, true)] (680, 820)).1.map _)) ++ [] = _
    rw [find2]; rfl
  show (if (0 : Int) ≠ 0 then _ else if spotsE ssp ≠ 0 then _ else if (spGoS (20, 30, true, [(899, 100, true), (749, 50, true)]) ssp).length > 128 then _ else (spGoS (20, 30, true, [(899, 100, true), (749, 50, true)]) ssp, 0)) = _
  rw [e]; rfl
theorem len1 : lengthS sl 100 1000 ssp (2, 3, 40) = (70, 0) := by
  have hp : posS sl 100 1000 ssp (2, 3, 40) = [(80, 150)] := by
    unfold posS
    show ((spotsS sl 100 1000 ssp 2).1.filter _).map _ = _
    rw [sp2]; rfl
  have hi : In 0 17179869184 [((80, 150) : Sp)] := In.of fun x hx => by
    rw [List.mem_singleton] at hx; subst hx; decide
  unfold lengthS
  show (if (spotsS sl 100 1000 ssp 2).2 ≠ 0 then _ else totalS (posS sl 100 1000 ssp (2, 3, 40))) = _
  rw [sp2, hp]
  unfold totalS
  rw [nf_self hi ⟨by decide, by decide, trivial⟩]
  rfl
theorem len2 : lengthS sl 100 1000 ssp (2, 3, 41) = (0, 0) := by
  have hp : posS sl 100 1000 ssp (2, 3, 41) = [] := by
    unfold posS
    show ((spotsS sl 100 1000 ssp 2).1.filter _).map _ = _
    rw [sp2]; rfl
  have hi : In 0 17179869184 ([] : List Sp) := In.of fun x hx => by simp at hx
  unfold lengthS
  show (if (spotsS sl 100 1000 ssp 2).2 ≠ 0 then _ else totalS (posS sl 100 1000 ssp (2, 3, 41))) = _
  rw [sp2, hp]
  unfold totalS
  rw [nf_self hi trivial]
  rfl
theorem wor : worstS sl 100 1000 ssp 2 = (40, 0) := by
  unfold worstS
  rw [sp2]; rfl
theorem bck : backS sl 100 1000 2 (0, 30, 90, 110) = ([(20, 50, 740, 750), (20, 50, 800, 810)], 0) := by
  have e : (partS [((899, 100, true) : Rn), (749, 50, true)] (90, 110)).1 = [(809, 10, true), (749, 10, true)] := rfl
  have hc : chk [((809, 10, true) : Rn), (749, 10, true)] = 0 := by decide
  have hi := spn_in (chk_zero.1 hc).goods
  have n : nf ([((809, 10, true) : Rn), (749, 10, true)].map spn) = [(740, 750), (800, 810)] := (nf_uniq hi (show Nr (-1) [((740, 750) : Sp), (800, 810)] from ⟨by decide, by decide, by decide, by decide, trivial⟩) (fun x => by
    show has [((740, 750) : Sp), (800, 810)] x ↔ has [((800, 810) : Sp), (740, 750)] x
    rw [has_iff, has_iff]
    simp only [List.mem_cons, List.not_mem_nil, or_false, exists_eq_or_imp, exists_eq_left]
    omega)).symm
  have im : imageS [((809, 10, true) : Rn), (749, 10, true)] = ([(740, 750), (800, 810)], 0) := by
    unfold imageS
    rw [if_neg (fun h => h hc), n]
  unfold backS
  rw [sl_cut2]
  show (if (0 : Int) ≠ 0 then _ else if rectE (0, 30, 90, 110) ≠ 0 then _ else if (30 : Int) > 30 then _ else if (110 : Int) > 150 then _ else if (imageS (partS [((899, 100, true) : Rn), (749, 50, true)] (90, 110)).1).2 ≠ 0 then _ else ((imageS (partS [((899, 100, true) : Rn), (749, 50, true)] (90, 110)).1).1.map _, (0 : Int))) = _
  rw [e, im]
  rfl
theorem awake43_s (k : Nat) (hk : 301000 ≤ k) : f_u37 k = some true := by
  have hsm : v_u39 k = (sl, 100, 1000, ssp) := rfl
  have hfs : f_u39 k = some (sl, 100, 1000, ssp) := rfl
  have hmd : v_u38 k (sl, 100, 1000, ssp) = (100, 1000) := rfl
  have hfm : f_u38 k (sl, 100, 1000, ssp) = some (100, 1000) := rfl
  have a1 : f_u13 k sl (100, 1000) ssp 1 = some ([((0, 25, 80, 220), 3, 40)], 0) := (inherit_Spots_s k (by omega) sl (100, 1000) ssp 1).trans (congrArg some sp1)
  have a2 : f_u13 k sl (100, 1000) ssp 2 = some ([((5, 30, 80, 150), 3, 40)], 0) := (inherit_Spots_s k (by omega) sl (100, 1000) ssp 2).trans (congrArg some sp2)
  have b1 : v_u13 k sl (100, 1000) ssp 1 = ([((0, 25, 80, 220), 3, 40)], 0) := (inherit_Spots_v k (by omega) sl (100, 1000) ssp 1).trans sp1
  have b2 : v_u13 k sl (100, 1000) ssp 2 = ([((5, 30, 80, 150), 3, 40)], 0) := (inherit_Spots_v k (by omega) sl (100, 1000) ssp 2).trans sp2
  have a3 : f_u11 k sl (100, 1000) ssp (2, 3, 40) = some (70, 0) := (inherit_Length_s k (by omega) sl (100, 1000) ssp (2, 3, 40)).trans (congrArg some len1)
  have a4 : f_u11 k sl (100, 1000) ssp (2, 3, 41) = some (0, 0) := (inherit_Length_s k (by omega) sl (100, 1000) ssp (2, 3, 41)).trans (congrArg some len2)
  have b3 : v_u11 k sl (100, 1000) ssp (2, 3, 40) = (70, 0) := (inherit_Length_v k (by omega) sl (100, 1000) ssp (2, 3, 40)).trans len1
  have b4 : v_u11 k sl (100, 1000) ssp (2, 3, 41) = (0, 0) := (inherit_Length_v k (by omega) sl (100, 1000) ssp (2, 3, 41)).trans len2
  have a5 : f_u10 k sl (100, 1000) 2 (0, 30, 90, 110) = some ([(20, 50, 740, 750), (20, 50, 800, 810)], 0) := (inherit_Back_s k (by omega) sl (100, 1000) 2 (0, 30, 90, 110)).trans (congrArg some bck)
  have b5 : v_u10 k sl (100, 1000) 2 (0, 30, 90, 110) = ([(20, 50, 740, 750), (20, 50, 800, 810)], 0) := (inherit_Back_v k (by omega) sl (100, 1000) 2 (0, 30, 90, 110)).trans bck
  have a6 : f_u14 k sl (100, 1000) ssp 2 = some (40, 0) := (inherit_Worst_s k (by omega) sl (100, 1000) ssp 2).trans (congrArg some wor)
  have b6 : v_u14 k sl (100, 1000) ssp 2 = (40, 0) := (inherit_Worst_v k (by omega) sl (100, 1000) ssp 2).trans wor
  have s1 : f_u67 k [((0, 25, 80, 220), 3, 40)] [((0, 25, 80, 220), 3, 40)] = some true := same36 k _ (by decide) (by omega)
  have s2 : f_u67 k [((5, 30, 80, 150), 3, 40)] [((5, 30, 80, 150), 3, 40)] = some true := same36 k _ (by decide) (by omega)
  have s3 : f_u64 k [(20, 50, 740, 750), (20, 50, 800, 810)] [(20, 50, 740, 750), (20, 50, 800, 810)] = some true := same15 k _ (by decide) (by omega)
  have t1 : v_u67 k [((0, 25, 80, 220), 3, 40)] [((0, 25, 80, 220), 3, 40)] = true := by unfold v_u67; rw [s1]; rfl
  have t2 : v_u67 k [((5, 30, 80, 150), 3, 40)] [((5, 30, 80, 150), 3, 40)] = true := by unfold v_u67; rw [s2]; rfl
  have t3 : v_u64 k [(20, 50, 740, 750), (20, 50, 800, 810)] [(20, 50, 740, 750), (20, 50, 800, 810)] = true := by unfold v_u64; rw [s3]; rfl
  unfold f_u37
  rw [hsm, hfs, hmd, hfm]
  dsimp only
  rw [a1, a2, a3, a4, a5, a6, b1, b2, b3, b4, b5, b6]
  dsimp only
  rw [s1, s2, s3, t1, t2, t3]
  rfl
theorem awake43_v (k : Nat) (hk : 301000 ≤ k) : v_u37 k = true := by
  unfold v_u37; rw [awake43_s k hk]; rfl
abbrev Pap := List Ro × Int × Int × List Spt
theorem small_5 (k : Nat) (x : Pap) (hl : x.1.length ≤ 40) : ∀ (d i j : Nat) (y : Int), i + d = x.1.length → d < j → (f_u40_5 k j y (i : Int) x).isSome = true := by
  intro d
  induction d with
  | zero =>
    intro i j y hi hj
    obtain ⟨j, rfl⟩ : ∃ q, j = q + 1 := ⟨j - 1, by omega⟩
    rw [f_u40_5, decide_eq_false (by omega : ¬ (i : Int) < (x.1.length : Int)), Bool.false_and, cond_false]; rfl
  | succ d ih =>
    intro i j y hi hj
    obtain ⟨j, rfl⟩ : ∃ q, j = q + 1 := ⟨j - 1, by omega⟩
    have hx : (i : Int) < (x.1.length : Int) := by omega
    rw [f_u40_5, decide_eq_true hx, Bool.true_and, wrapS i (by omega)]
    cases decide (y ≤ 300)
    · rfl
    · rw [cond_true, if_pos ⟨by omega, hx⟩]
      exact ih (i + 1) j _ (by omega) (by omega)
theorem small_s (k : Nat) (hk : 100 ≤ k) (x : Pap) : (f_u40 k x).isSome = true := by
  unfold f_u40
  by_cases h : x.1.length > 40
  · rw [decide_eq_true (by omega : (x.1.length : Int) > 40), Bool.true_or]; rfl
  · cases decide ((List.length x.2.2.2 : Int) > 130)
    · rw [decide_eq_false (by omega : ¬ (x.1.length : Int) > 40), Bool.or_false, cond_false]
      exact small_5 k x (by omega) x.1.length 0 k 0 (by omega) (by omega)
    · rw [Bool.or_true]; rfl
end Go.AM
namespace Go.AM
open Go Go.Proofs
noncomputable section
end
end Go.AM
namespace Go.AM
open Go Go.Proofs
noncomputable section
end
end Go.AM
namespace Go.AM
open Go Go.Proofs
noncomputable section
end
theorem Nr.pos : ∀ {b : Int} {l : List Sp}, Nr b l → ∀ s ∈ l, s.1 < s.2
  | _, [], _, s, hs => by simp at hs
  | b, u :: t, ⟨_, h2, h3⟩, s, hs => by
    rcases List.mem_cons.1 hs with e | h
    · rw [e]; exact h2
    · exact Nr.pos h3 s h
theorem find_mem {m : List Rn} (hc : Chk m) {x : Spt} (hx : SpotOk x) {s : Sp} (hs : s ∈ (findS m x.1.2.2).1) : 0 ≤ s.1 ∧ s.1 < s.2 ∧ s.2 ≤ 17179869184 := by
  obtain ⟨⟨a, b, c, d, e, f⟩, _, _, _, _⟩ := hx
  unfold findS at hs
  rw [if_neg (fun h => h (chk_zero.2 hc)), if_neg (by omega)] at hs
  have h1 := (nf_in (find_in hc x.1.2.2)).mem s hs
  have h2 := (nf_nr (find_in hc x.1.2.2)).pos s hs
  exact ⟨h1.1, h2, h1.2.2⟩
theorem fndl_mem {c : Ch} {x y : Spt} (h : y ∈ fndl c x) : max x.1.1 c.1 < min x.1.2.1 (c.1 + c.2.1) ∧ ∃ s ∈ (findS c.2.2.2 x.1.2.2).1, y = ((acL c (max x.1.1 c.1) (min x.1.2.1 (c.1 + c.2.1)), acR c (max x.1.1 c.1) (min x.1.2.1 (c.1 + c.2.1)), s), x.2) := by
  unfold fndl at h
  by_cases h1 : max x.1.1 c.1 ≥ min x.1.2.1 (c.1 + c.2.1)
  · rw [if_pos h1] at h; exact absurd h (List.not_mem_nil)
  · rw [if_neg h1] at h
    obtain ⟨s, hs, e⟩ := List.mem_map.1 h
    exact ⟨by omega, s, hs, e.symm⟩
theorem spGo_mem {c : Ch} : ∀ {sp : List Spt} {y : Spt}, y ∈ spGoS c sp → ∃ x ∈ sp, y ∈ fndl c x
  | [], y, h => by simp [spGoS] at h
  | x :: t, y, h => by
    unfold spGoS at h
    rcases List.mem_append.1 h with h | h
    · exact ⟨x, by simp, h⟩
    · obtain ⟨z, hz, hy⟩ := spGo_mem h
      exact ⟨z, by simp [hz], hy⟩
theorem ac_in {c : Ch} {a b : Int} (h0 : c.1 ≤ a) (h1 : a < b) (h2 : b ≤ c.1 + c.2.1) : 0 ≤ acL c a b ∧ acL c a b < acR c a b ∧ acR c a b ≤ c.2.1 := by
  unfold acL acR
  cases c.2.2.1
  · rw [if_neg (by decide), if_neg (by decide)]; omega
  · rw [if_pos rfl, if_pos rfl]; omega
theorem spGo_ok {c : Ch} (c1 : c.2.1 ≤ 12000) (hc : Chk c.2.2.2) {sp : List Spt} (hs : ∀ x ∈ sp, SpotOk x) : ∀ y ∈ spGoS c sp, SpotOk y := fun y hy => by
  obtain ⟨x, hx, hy⟩ := spGo_mem hy
  have ok := hs x hx
  obtain ⟨h1, s, h2, e⟩ := fndl_mem hy
  obtain ⟨f1, f2, f3⟩ := find_mem hc ok h2
  obtain ⟨a1, a2, a3⟩ := ac_in (c := c) (a := max x.1.1 c.1) (b := min x.1.2.1 (c.1 + c.2.1)) (by omega) h1 (by omega)
  obtain ⟨_, _, _, k, l⟩ := ok
  subst e
  exact ⟨⟨a1, by show acL _ _ _ ≤ acR _ _ _; omega, by show acR _ _ _ ≤ 12000; omega, f1, by show s.1 ≤ s.2; omega, f3⟩, a2, f2, k, l⟩
theorem spotE_ok {x : Spt} (h : SpotOk x) : spotE x = 0 := by
  obtain ⟨⟨a, b, c, d, e, f⟩, g, i, ⟨j1, j2⟩, l1, l2⟩ := h
  unfold spotE rectE rectB
  rw [decide_eq_false (by omega), decide_eq_false (by omega), decide_eq_false (by omega), decide_eq_false (by omega), decide_eq_false (by omega), decide_eq_false (by omega), show (x.1.1 == x.1.2.1) = false from beq_eq_false_iff_ne.2 (by omega), show (x.1.2.2.1 == x.1.2.2.2) = false from beq_eq_false_iff_ne.2 (by omega), decide_eq_false (by omega), decide_eq_false (by omega), decide_eq_false (by omega), decide_eq_false (by omega)]
  rfl
theorem spotGo_ok : ∀ {l : List Spt}, (∀ x ∈ l, SpotOk x) → spotGo l = 0
  | [], _ => rfl
  | x :: t, h => by
    unfold spotGo
    rw [spotE_ok (h x (by simp))]
    exact spotGo_ok fun y hy => h y (by simp [hy])
theorem spotsE_ok {l : List Spt} (hl : l.length ≤ 128) (h : ∀ x ∈ l, SpotOk x) : spotsE l = 0 := by
  unfold spotsE
  rw [if_neg (by omega)]
  exact spotGo_ok h
theorem sizeS_pos {l : List Ro} {W L id : Int} (reg : Reg l W L) : 0 ≤ (sizeS l W L id).1 := by
  have hw := reg.w
  unfold sizeS
  by_cases h0 : id = 0
  · rw [if_pos h0]; show 0 ≤ W; omega
  · rw [if_neg h0]
    cases e : look l id with
    | none => exact Int.le_refl _
    | some r =>
      have := (reg.wl r (look_some e).1).w0
      show 0 ≤ r.2.2.2.1; omega
/-- what is known of the defects of a roll -/
theorem spots_ok {l : List Ro} {W L id : Int} {sp : List Spt} : ∀ y ∈ (spotsS l W L sp id).1, SpotOk y := by
  unfold spotsS
  by_cases h1 : (cutFull l W L id).2 ≠ 0
  · rw [if_pos h1]; intro y hy; exact absurd hy (List.not_mem_nil)
  · rw [if_neg h1]
    by_cases h2 : spotsE sp ≠ 0
    · rw [if_pos h2]; intro y hy; exact absurd hy (List.not_mem_nil)
    · rw [if_neg h2]
      by_cases h3 : (spGoS (cutFull l W L id).1 sp).length > 128
      · rw [if_pos h3]; intro y hy; exact absurd hy (List.not_mem_nil)
      · rw [if_neg h3]
        obtain ⟨reg, ci⟩ := cut_in (Classical.not_not.1 h1)
        have hw := reg.w
        have h0 := ci.left
        have h5 := ci.right
        exact spGo_ok (by omega) ci.chk (spotsE_zero (Classical.not_not.1 h2)).2

/-! ### the reference's defects of rolls -/
theorem acrossR (k : Nat) (c : Ch) (a b : Int) (c0 : 0 ≤ c.1) (c1 : c.1 + c.2.1 ≤ 12000) (c2 : 0 ≤ c.2.1) (ha : 0 ≤ a ∧ a ≤ 12000) (hb : 0 ≤ b ∧ b ≤ 12000) : f_u82 k c a b = some ((acL c (max a c.1) (min b (c.1 + c.2.1)), acR c (max a c.1) (min b (c.1 + c.2.1))), decide (max a c.1 < min b (c.1 + c.2.1))) := by
  have e1 : (if c.1 > a then c.1 else a) = max a c.1 := by split <;> omega
  have e2 : (if c.1 + c.2.1 < b then c.1 + c.2.1 else b) = min b (c.1 + c.2.1) := by split <;> omega
  unfold f_u82 acL acR
  rw [wrap_id (i := c.1 + c.2.1) (by omega) (by omega), e1, e2, wrap_id (i := min b (c.1 + c.2.1) - c.1) (by omega) (by omega), wrap_id (i := max a c.1 - c.1) (by omega) (by omega), wrap_id (by omega) (by omega), wrap_id (by omega) (by omega)]
  cases c.2.2.1
  · rw [cond_false, if_neg (by decide), if_neg (by decide), decide_eq_decide.2 (by omega : min b (c.1 + c.2.1) - c.1 > max a c.1 - c.1 ↔ max a c.1 < min b (c.1 + c.2.1))]
  · rw [cond_true, if_pos rfl, if_pos rfl, decide_eq_decide.2 (by omega : c.2.1 - (min b (c.1 + c.2.1) - c.1) < c.2.1 - (max a c.1 - c.1) ↔ max a c.1 < min b (c.1 + c.2.1))]
theorem SpotsR_15 (k : Nat) (A B : Int) (sp : List Spt) (i : Nat) (hi : i < sp.length) (fo : List Sp) (c : Ch) (hf : fo.length ≤ 256) (hil : i ≤ 128) : ∀ (d q n : Nat) (out : List Spt), q + d = fo.length → out.length ≤ 100000 + q →
    f_u80_15 k (n + d + 1) sp (i : Int) fo (q : Int) c out (A, B) = f_u80_9 k n sp ((i + 1 : Nat) : Int) c (out ++ (fo.drop q).map fun s => ((A, B, s), (sp.getD i T4.dflt).2)) := by
  intro d
  induction d with
  | zero =>
    intro q n out hq ho
    rw [f_u80_15, decide_eq_false (by omega : ¬ (q : Int) < (fo.length : Int)), cond_false, List.drop_of_length_le (by omega), List.map_nil, List.append_nil, wrapS i (by omega)]
  | succ d ih =>
    intro q n out hq ho
    have h1 : (0 : Int) ≤ (q : Int) := by omega
    have h2 : (q : Int) < (fo.length : Int) := by omega
    have h3 : (0 : Int) ≤ (i : Int) := by omega
    have h4 : (i : Int) < (sp.length : Int) := by omega
    rw [show n + (d + 1) + 1 = (n + d + 1) + 1 from rfl, f_u80_15, decide_eq_true h2, cond_true, if_pos ⟨h1, h2, h1, h2⟩, if_pos ⟨h3, h4, h3, h4, by rw [List.length_singleton]; omega⟩, Int.toNat_natCast, Int.toNat_natCast, wrapS q (by omega), ih (q + 1) n _ (by omega) (by rw [List.length_append, List.length_singleton]; omega), drop_cons' fo q T10.dflt (by omega), List.map_cons, List.append_assoc]
    rfl
set_option maxRecDepth 20000 in
theorem SpotsR_9 (k : Nat) (hk : 2100 ≤ k) (sp : List Spt) (hs : ∀ x ∈ sp, SpotOk x) (hsl : sp.length ≤ 128) (c : Ch) (c0 : 0 ≤ c.1) (c1 : c.1 + c.2.1 ≤ 12000) (c2 : 0 ≤ c.2.1) (hc : Chk c.2.2.2) : ∀ (d i j : Nat) (out : List Spt), i + d = sp.length → d * 258 < j → out.length ≤ i * 256 →
    f_u80_9 k j sp (i : Int) c out = some (if (out ++ spGoS c (sp.drop i)).length > 128 then ([], 8) else (out ++ spGoS c (sp.drop i), 0)) := by
  intro d
  induction d with
  | zero =>
    intro i j out hi hj ho
    obtain ⟨j, rfl⟩ : ∃ q, j = q + 1 := ⟨j - 1, by omega⟩
    rw [f_u80_9, decide_eq_false (by omega : ¬ (i : Int) < (sp.length : Int)), cond_false, List.drop_of_length_le (by omega), spGoS, List.append_nil]
    by_cases h : out.length > 128
    · rw [decide_eq_true (by omega : (out.length : Int) > 128), if_pos h]; rfl
    · rw [decide_eq_false (by omega : ¬ (out.length : Int) > 128), if_neg h]; rfl
  | succ d ih =>
    intro i j out hi hj ho
    have hx : SpotOk (sp.getD i T4.dflt) := hs _ (getD_mem' _ _ _ (by omega))
    obtain ⟨j, rfl⟩ : ∃ q, j = q + 1 := ⟨j - 1, by omega⟩
    have h3 : (0 : Int) ≤ (i : Int) := by omega
    have h4 : (i : Int) < (sp.length : Int) := by omega
    obtain ⟨f1, f2⟩ := find_ok0 hc hx
    obtain ⟨⟨x1, x2, x3, x4, x5, x6⟩, _, _, _, _⟩ := _root_.id hx
    have ha := acrossR k c (sp.getD i T4.dflt).1.1 (sp.getD i T4.dflt).1.2.1 c0 c1 c2 ⟨x1, by omega⟩ ⟨by omega, x3⟩
    have hv : v_u82 k c (sp.getD i T4.dflt).1.1 (sp.getD i T4.dflt).1.2.1 = _ := congrArg (fun o : Option ((Int × Int) × Bool) => o.getD ((T10).dflt, false)) ha
    rw [f_u80_9, decide_eq_true h4, cond_true, Int.toNat_natCast, ha, hv, if_pos ⟨h3, h4, h3, h4, rfl⟩, drop_cons' sp i T4.dflt (by omega), spGoS, Option.getD_some]
    unfold fndl
    by_cases h : max (sp.getD i T4.dflt).1.1 c.1 ≥ min (sp.getD i T4.dflt).1.2.1 (c.1 + c.2.1)
    · rw [decide_eq_false (by omega : ¬ max (sp.getD i T4.dflt).1.1 c.1 < min (sp.getD i T4.dflt).1.2.1 (c.1 + c.2.1)), Bool.not_false, cond_true, if_pos h, List.nil_append, wrapS i (by omega)]
      exact ih (i + 1) j out (by omega) (by omega) (by omega)
    · rw [decide_eq_true (by omega : max (sp.getD i T4.dflt).1.1 c.1 < min (sp.getD i T4.dflt).1.2.1 (c.1 + c.2.1)), Bool.not_true, cond_false, if_neg h]
      obtain ⟨j, rfl⟩ : ∃ q, j = q + (findS c.2.2.2 (sp.getD i T4.dflt).1.2.2).1.length + 1 := ⟨j - (findS c.2.2.2 (sp.getD i T4.dflt).1.2.2).1.length - 1, by omega⟩
      have h15 := SpotsR_15 k (acL c (max (sp.getD i T4.dflt).1.1 c.1) (min (sp.getD i T4.dflt).1.2.1 (c.1 + c.2.1))) (acR c (max (sp.getD i T4.dflt).1.1 c.1) (min (sp.getD i T4.dflt).1.2.1 (c.1 + c.2.1))) sp i (by omega) (findS c.2.2.2 (sp.getD i T4.dflt).1.2.2).1 c f2 (by omega) (findS c.2.2.2 (sp.getD i T4.dflt).1.2.2).1.length 0 j out (by omega) (by omega)
      rw [ref13_Find_s k hk, ref13_Find_v k hk, if_pos ⟨h3, h4, h3, h4, rfl⟩]
      refine h15.trans ?_
      rw [List.drop_zero, ih (i + 1) j _ (by omega) (by omega) (by rw [List.length_append, List.length_map]; omega), List.append_assoc]
theorem ref43_Spots_s (k : Nat) (hk : 301000 ≤ k) (l : List Ro) (web : Int × Int) (sp : List Spt) (id : Int) : f_u80 k l web sp id = some (spotsS l web.1 web.2 sp id) := by
  unfold f_u80 spotsS
  rw [ref42_Cut_s k hk, ref42_Cut_v k hk, ref36_Check_s k (by omega), ref36_Check_v k (by omega), Option.isSome_some, if_pos rfl, Option.isSome_some, if_pos rfl]
  by_cases h1 : (cutFull l web.1 web.2 id).2 = 0
  · obtain ⟨reg, ci⟩ := cut_in h1
    have hsz := sizeS_pos (id := id) reg
    have hw := reg.w
    generalize (cutFull l web.1 web.2 id) = o at *
    obtain ⟨c1, c2, c3, c4, c5, _⟩ := ci
    rw [show (o.2 != 0) = false by simp [h1], cond_false, if_neg (fun h : o.2 ≠ 0 => h h1)]
    by_cases h2 : spotsE sp = 0
    · obtain ⟨s1, s2⟩ := spotsE_zero h2
      rw [show (spotsE sp != 0) = false by simp [h2], cond_false, if_neg (fun h : spotsE sp ≠ 0 => h h2)]
      exact SpotsR_9 k (by omega) sp s2 s1 o.1 c1 (by omega) (by omega) c4 sp.length 0 k [] (by omega) (by omega) (by simp)
    · rw [bne_iff_ne.2 h2, if_pos h2]; rfl
  · rw [bne_iff_ne.2 h1, if_pos h1]; rfl
theorem ref43_Spots_v (k : Nat) (hk : 301000 ≤ k) (l : List Ro) (web : Int × Int) (sp : List Spt) (id : Int) : v_u80 k l web sp id = spotsS l web.1 web.2 sp id := by
  unfold v_u80; rw [ref43_Spots_s k hk]; rfl
end Go.AM
namespace Go.AM
open Go Go.Proofs
noncomputable section
abbrev R_u68 : Type := List (T4).T × Int
def res_u68 (r : R_u68) : AV := .tup [.r (.ro T4 r.1), .r (.v (.int .i64 r.2))]
def bo_u68 (l_ : List (T4).T) (kind_ : Int) (level_ : Int) (r : R_u68) : List (Nat × Blk) := []
def args_u68 (l_ : List (T4).T) (kind_ : Int) (level_ : Int) : List AV := [.r (.ro T4 l_), .r (.v (.int .i64 kind_)), .r (.v (.int .i64 level_))]
def bin_u68 (l_ : List (T4).T) (kind_ : Int) (level_ : Int) : List Blk := []
abbrev C_u68 (l_ : List (T4).T) (kind_ : Int) (level_ : Int) (r : R_u68) : Prop := CC Tryz.prog 40 (args_u68 l_ kind_ level_) (bin_u68 l_ kind_ level_) (res_u68 r) (bo_u68 l_ kind_ level_ r)
def st_u68_6 (y0 : List (T4).T) (y1 : Int) (y2 : Int) (y3 : Int) (y4 : List (T4).T) : St := ⟨mkS 50 [(0, .r (.ro T4 y0)), (1, .r (.v (.int .i64 y1))), (2, .r (.v (.int .i64 y2))), (9, .own 1000000 0), (10, .r (.v (.int .i64 y3)))], [(1000000, 0, .row 62 T4 y4)]⟩
def f_u68_6 (k : Nat) : Nat → List (T4).T → Int → Int → Int → List (T4).T → Option R_u68
  | 0, _, _, _, _, _ => none
  | j + 1, y0, y1, y2, y3, y4 =>
  bif (decide (y3 < (↑y0.length : Int))) then
  if ((y1 == (0 : Int)) = false → 0 ≤ y3) ∧ ((y1 == (0 : Int)) = false → y3 < (↑y0.length : Int)) ∧ ((y1 == (0 : Int) || (y0.getD y3.toNat T4.dflt).2.1 == y1) = true → 0 ≤ y3) ∧ ((y1 == (0 : Int) || (y0.getD y3.toNat T4.dflt).2.1 == y1) = true → y3 < (↑y0.length : Int)) then
  bif ((y1 == (0 : Int) || (y0.getD y3.toNat T4.dflt).2.1 == y1) && decide ((y0.getD y3.toNat T4.dflt).2.2 ≥ y2)) then
  if (0 ≤ y3) ∧ (y3 < (↑y0.length : Int)) ∧ ((y4.length + [y0.getD y3.toNat T4.dflt].length) * (48 : Nat) ≤ (140737488355328 : Nat)) then
  f_u68_6 k j y0 y1 y2 ((IntKind.i64.wrap (y3 + 1))) ((y4 ++ [y0.getD y3.toNat T4.dflt]))
  else none
  else
  f_u68_6 k j y0 y1 y2 ((IntKind.i64.wrap (y3 + 1))) y4
  else none
  else
  some ((y4, 0))
def f_u68 (k : Nat) (l_ : List (T4).T) (kind_ : Int) (level_ : Int) : Option R_u68 :=
  if ((f_u65 k l_).isSome = true) then
  bif (v_u65 k l_ != (0 : Int)) then
  some (([], v_u65 k l_))
  else
  f_u68_6 k k l_ kind_ level_ 0 ([])
  else none
def v_u68 (k : Nat) (l_ : List (T4).T) (kind_ : Int) (level_ : Int) : R_u68 := (f_u68 k l_ kind_ level_).getD ([], 0)
def ke_u68 (k : Nat) : Ke := (40, fun xs => match xs with
  | [_, _, _] => some [false, false, false]
  | _ => none, fun xs bs => match xs, bs with
  | [.r (.ro tl__ ql_), .r (.v (.int .i64 kind_)), .r (.v (.int .i64 level_))], [] => (castL tl__ T4 ql_).bind fun l_ => some (.one (res_u68 (v_u68 k l_ kind_ level_), bo_u68 l_ kind_ level_ (v_u68 k l_ kind_ level_)))
  | _, _ => none)
def cs_u68 : List (Nat × List Cmd) := [(6, [.row 9 62 T4, .autoB [0, 1, 2, 9, 10] false []])]
abbrev E_u68 (l_ : List (T4).T) (kind_ : Int) (level_ : Int) (todo : List Item) (st : St) (o : Option R_u68) : Prop := ∀ r, o = some r → Ev Tryz.prog Tryz.f40 0 todo st (res_u68 r) (bo_u68 l_ kind_ level_ r)
theorem ev_u68 (k : Nat) (l_ : List (T4).T) (kind_ : Int) (level_ : Int) : ∀ j, (∀ (y0 : List (T4).T) (y1 : Int) (y2 : Int) (y3 : Int) (y4 : List (T4).T), E_u68 l_ kind_ level_ (placeAt Tryz.f40 6) (st_u68_6 y0 y1 y2 y3 y4) (f_u68_6 k j y0 y1 y2 y3 y4))
  | 0 => fun _ _ _ _ _ _ h => (nomatch h)
  | j + 1 => by
    have ih := @ev_u68 k l_ kind_ level_ j
    · intro y0 y1 y2 y3 y4 r h
      rw [f_u68_6] at h
      exact go (mkK [ke_u65 k]) [] cs_u68 [.frz 6 false (RTy.list T4), .autoB [6, 7] true []] (gT h (fun c h => gN h (fun q => conjC q.1 (conjC q.2.1 (conjC q.2.2.1 (conjC q.2.2.2 conj0)))) fun h => gT h (fun c h => gN h (fun q => conjC q.1 (conjC q.2.1 (conjC q.2.2 conj0))) fun h => gC h 6 (ih _ _ _ _ _ _)) fun c h => gC h 6 (ih _ _ _ _ _ _)) fun c h => gL h) (by kernel_rfl)
theorem of_u68 (k : Nat) (l_ : List (T4).T) (kind_ : Int) (level_ : Int) (r : R_u68) (h : f_u68 k l_ kind_ level_ = some r) : C_u68 l_ kind_ level_ r := by
  refine CC.of (fn := Tryz.f40) (by kernel_rfl) (by kernel_rfl) (by kernel_rfl) (by kernel_rfl) ?_
  unfold f_u68 at h
  exact go (mkK [ke_u65 k]) [] cs_u68 [.frz 6 false (RTy.list T4), .autoB [6, 7] true []] (gN1 h (fun q => cc_u65 q) fun h => gT h (fun c h => gL h) fun c h => gC h 6 ((ev_u68 k l_ kind_ level_ k) _ _ _ _ _ _)) (by kernel_rfl)
theorem cc_u68 {k : Nat} {l_ : List (T4).T} {kind_ : Int} {level_ : Int} (h : (f_u68 k l_ kind_ level_).isSome = true) : C_u68 l_ kind_ level_ (v_u68 k l_ kind_ level_) := ccG (Φ := C_u68 l_ kind_ level_) h (of_u68 k l_ kind_ level_)
abbrev R_u66 : Type := List (T10).T × Int
def res_u66 (r : R_u66) : AV := .tup [.r (.ro T10 r.1), .r (.v (.int .i64 r.2))]
def bo_u66 (l_ : List (T4).T) (r : R_u66) : List (Nat × Blk) := []
def args_u66 (l_ : List (T4).T) : List AV := [.r (.ro T4 l_)]
def bin_u66 (l_ : List (T4).T) : List Blk := []
abbrev C_u66 (l_ : List (T4).T) (r : R_u66) : Prop := CC Tryz.prog 41 (args_u66 l_) (bin_u66 l_) (res_u66 r) (bo_u66 l_ r)
def st_u66_6 (y0 : List (T4).T) (y1 : Int) (y2 : List (T10).T) : St := ⟨mkS 38 [(0, .r (.ro T4 y0)), (5, .own 1000000 0), (6, .r (.v (.int .i64 y1)))], [(1000000, 0, .row 72 T10 y2)]⟩
def st_u66_9 (y0 : List (T10).T) : St := ⟨mkS 38 [(5, .r (.ro T10 y0))], []⟩
mutual
def f_u66_6 (k : Nat) : Nat → List (T4).T → Int → List (T10).T → Option R_u66
  | 0, _, _, _ => none
  | j + 1, y0, y1, y2 =>
  bif (decide (y1 < (↑y0.length : Int))) then
  if (0 ≤ y1) ∧ (y1 < (↑y0.length : Int)) ∧ (0 ≤ y1) ∧ (y1 < (↑y0.length : Int)) ∧ ((y2.length + [(y0.getD y1.toNat T4.dflt).1.2.2].length) * (16 : Nat) ≤ (140737488355328 : Nat)) then
  f_u66_6 k j y0 ((IntKind.i64.wrap (y1 + 1))) ((y2 ++ [(y0.getD y1.toNat T4.dflt).1.2.2]))
  else none
  else
  f_u66_9 k j y2
def f_u66_9 (k : Nat) : Nat → List (T10).T → Option R_u66
  | 0, _ => none
  | j + 1, y0 =>
  if ((f_u43 k y0).isSome = true) then
  some (((v_u43 k y0).1, (v_u43 k y0).2))
  else none
end
def f_u66 (k : Nat) (l_ : List (T4).T) : Option R_u66 :=
  if ((f_u65 k l_).isSome = true) then
  bif (v_u65 k l_ != (0 : Int)) then
  some (([], v_u65 k l_))
  else
  f_u66_6 k k l_ 0 ([])
  else none
def v_u66 (k : Nat) (l_ : List (T4).T) : R_u66 := (f_u66 k l_).getD ([], 0)
def ke_u66 (k : Nat) : Ke := (41, fun xs => match xs with
  | [_] => some [false]
  | _ => none, fun xs bs => match xs, bs with
  | [.r (.ro tl__ ql_)], [] => (castL tl__ T4 ql_).bind fun l_ => some (.one (res_u66 (v_u66 k l_), bo_u66 l_ (v_u66 k l_)))
  | _, _ => none)
def cs_u66 : List (Nat × List Cmd) := [(6, [.row 5 72 T10, .autoB [0, 5, 6] false []]), (9, [.frz 5 false (RTy.list T10), .autoB [5] false []])]
abbrev E_u66 (l_ : List (T4).T) (todo : List Item) (st : St) (o : Option R_u66) : Prop := ∀ r, o = some r → Ev Tryz.prog Tryz.f41 0 todo st (res_u66 r) (bo_u66 l_ r)
theorem ev_u66 (k : Nat) (l_ : List (T4).T) : ∀ j, (∀ (y0 : List (T4).T) (y1 : Int) (y2 : List (T10).T), E_u66 l_ (placeAt Tryz.f41 6) (st_u66_6 y0 y1 y2) (f_u66_6 k j y0 y1 y2)) ∧ (∀ (y0 : List (T10).T), E_u66 l_ (placeAt Tryz.f41 9) (st_u66_9 y0) (f_u66_9 k j y0))
  | 0 => ⟨fun _ _ _ _ h => (nomatch h), fun _ _ h => (nomatch h)⟩
  | j + 1 => by
    have ih := @ev_u66 k l_ j
    refine ⟨?_, ?_⟩
    · intro y0 y1 y2 r h
      rw [f_u66_6] at h
      exact go (mkK [ke_u43 k, ke_u65 k]) [9] cs_u66 [.frz 2 false (RTy.list T10), .autoB [2, 3] true []] (gT h (fun c h => gN h (fun q => conjC q.1 (conjC q.2.1 (conjC q.2.2.1 (conjC q.2.2.2.1 (conjC q.2.2.2.2 conj0))))) fun h => gC h 6 (ih.1 _ _ _ _)) fun c h => gC h 9 (ih.2 _ _)) (by kernel_rfl)
    · intro y0 r h
      rw [f_u66_9] at h
      exact go (mkK [ke_u43 k, ke_u65 k]) [9] cs_u66 [.frz 2 false (RTy.list T10), .autoB [2, 3] true []] (gN1 h (fun q => cc_u43 q) fun h => gL h) (by kernel_rfl)
theorem of_u66 (k : Nat) (l_ : List (T4).T) (r : R_u66) (h : f_u66 k l_ = some r) : C_u66 l_ r := by
  refine CC.of (fn := Tryz.f41) (by kernel_rfl) (by kernel_rfl) (by kernel_rfl) (by kernel_rfl) ?_
  unfold f_u66 at h
  exact go (mkK [ke_u43 k, ke_u65 k]) [9] cs_u66 [.frz 2 false (RTy.list T10), .autoB [2, 3] true []] (gN1 h (fun q => cc_u65 q) fun h => gT h (fun c h => gL h) fun c h => gC h 6 ((ev_u66 k l_ k).1 _ _ _ _)) (by kernel_rfl)
theorem cc_u66 {k : Nat} {l_ : List (T4).T} (h : (f_u66 k l_).isSome = true) : C_u66 l_ (v_u66 k l_) := ccG (Φ := C_u66 l_) h (of_u66 k l_)
abbrev R_u79 : Type := Int × Int
def res_u79 (r : R_u79) : AV := .tup [.r (.v (.int .i64 r.1)), .r (.v (.int .i64 r.2))]
def bo_u79 (l_ : List (T2).T) (web_ : T7.T) (spots_ : List (T4).T) (q_ : T9.T) (r : R_u79) : List (Nat × Blk) := []
def args_u79 (l_ : List (T2).T) (web_ : T7.T) (spots_ : List (T4).T) (q_ : T9.T) : List AV := [.r (.ro T2 l_), .agg (rvs (enc T7 web_)), .r (.ro T4 spots_), .agg (rvs (enc T9 q_))]
def bin_u79 (l_ : List (T2).T) (web_ : T7.T) (spots_ : List (T4).T) (q_ : T9.T) : List Blk := []
abbrev C_u79 (l_ : List (T2).T) (web_ : T7.T) (spots_ : List (T4).T) (q_ : T9.T) (r : R_u79) : Prop := CC Tryz.prog 18 (args_u79 l_ web_ spots_ q_) (bin_u79 l_ web_ spots_ q_) (res_u79 r) (bo_u79 l_ web_ spots_ q_ r)
def st_u79_8 (y0 : List (T10).T) (y1 : Int) (y2 : Int) : St := ⟨mkS 64 [(14, .r (.ro T10 y0)), (16, .r (.v (.int .i64 y1))), (17, .r (.v (.int .i64 y2)))], []⟩
def f_u79_8 (k : Nat) : Nat → List (T10).T → Int → Int → Option R_u79
  | 0, _, _, _ => none
  | j + 1, y0, y1, y2 =>
  bif (decide (y2 < (↑y0.length : Int))) then
  if (0 ≤ y2) ∧ (y2 < (↑y0.length : Int)) ∧ (0 ≤ y2) ∧ (y2 < (↑y0.length : Int)) then
  f_u79_8 k j y0 ((IntKind.i64.wrap (IntKind.i64.wrap (y1 + (y0.getD y2.toNat T10.dflt).2) - (y0.getD y2.toNat T10.dflt).1))) ((IntKind.i64.wrap (y2 + 1)))
  else none
  else
  some ((y1, 0))
def f_u79 (k : Nat) (l_ : List (T2).T) (web_ : T7.T) (spots_ : List (T4).T) (q_ : T9.T) : Option R_u79 :=
  if ((f_u80 k l_ web_ spots_ q_.1).isSome = true) then
  bif ((v_u80 k l_ web_ spots_ q_.1).2 != (0 : Int)) then
  some ((0, (v_u80 k l_ web_ spots_ q_.1).2))
  else
  if ((f_u68 k (v_u80 k l_ web_ spots_ q_.1).1 q_.2.1 q_.2.2).isSome = true) then
  if ((f_u66 k (v_u68 k (v_u80 k l_ web_ spots_ q_.1).1 q_.2.1 q_.2.2).1).isSome = true) then
  f_u79_8 k k ((v_u66 k (v_u68 k (v_u80 k l_ web_ spots_ q_.1).1 q_.2.1 q_.2.2).1).1) 0 0
  else none
  else none
  else none
def v_u79 (k : Nat) (l_ : List (T2).T) (web_ : T7.T) (spots_ : List (T4).T) (q_ : T9.T) : R_u79 := (f_u79 k l_ web_ spots_ q_).getD (0, 0)
def ke_u79 (k : Nat) : Ke := (18, fun xs => match xs with
  | [_, _, _, _] => some [false, false, false, false]
  | _ => none, fun xs bs => match xs, bs with
  | [.r (.ro tl__ ql_), .agg qweb_, .r (.ro tspots__ qspots_), .agg qq_], [] => (castL tl__ T2 ql_).bind fun l_ => (decS [] T7 qweb_).bind fun web_ => (castL tspots__ T4 qspots_).bind fun spots_ => (decS [] T9 qq_).bind fun q_ => some (.one (res_u79 (v_u79 k l_ web_ spots_ q_), bo_u79 l_ web_ spots_ q_ (v_u79 k l_ web_ spots_ q_)))
  | _, _ => none)
def K_u79 (k : Nat) : Calld := mkK [ke_u80 k, ke_u68 k, ke_u66 k]
def cs_u79 : List (Nat × List Cmd) := [(8, [.autoB [14, 16, 17] false []])]
abbrev E_u79 (l_ : List (T2).T) (web_ : T7.T) (spots_ : List (T4).T) (q_ : T9.T) (todo : List Item) (st : St) (o : Option R_u79) : Prop := ∀ r, o = some r → Ev Tryz.prog Tryz.f18 0 todo st (res_u79 r) (bo_u79 l_ web_ spots_ q_ r)
theorem ev_u79 (k : Nat) (l_ : List (T2).T) (web_ : T7.T) (spots_ : List (T4).T) (q_ : T9.T) : ∀ j, (∀ (y0 : List (T10).T) (y1 : Int) (y2 : Int), E_u79 l_ web_ spots_ q_ (placeAt Tryz.f18 8) (st_u79_8 y0 y1 y2) (f_u79_8 k j y0 y1 y2))
  | 0 => fun _ _ _ _ h => (nomatch h)
  | j + 1 => by
    have ih := @ev_u79 k l_ web_ spots_ q_ j
    · intro y0 y1 y2 r h
      rw [f_u79_8] at h
      exact go (K_u79 k) [] cs_u79 [.autoB [8, 9] true []] (gT h (fun c h => gN h (fun q => conjC q.1 (conjC q.2.1 (conjC q.2.2.1 (conjC q.2.2.2 conj0)))) fun h => gC h 8 (ih _ _ _ _)) fun c h => gL h) (by kernel_rfl)
theorem of_u79 (k : Nat) (l_ : List (T2).T) (web_ : T7.T) (spots_ : List (T4).T) (q_ : T9.T) (r : R_u79) (h : f_u79 k l_ web_ spots_ q_ = some r) : C_u79 l_ web_ spots_ q_ r := by
  refine CC.of (fn := Tryz.f18) (by kernel_rfl) (by kernel_rfl) (by kernel_rfl) (by kernel_rfl) ?_
  unfold f_u79 at h
  exact go (K_u79 k) [] cs_u79 [.autoB [8, 9] true []] (gN1 h (fun q => cc_u80 q) fun h => gT h (fun c h => gL h) fun c h => gN1 h (fun q => cc_u68 q) fun h => gN1 h (fun q => cc_u66 q) fun h => gC h 8 ((ev_u79 k l_ web_ spots_ q_ k) _ _ _ _)) (by kernel_rfl)
theorem cc_u79 {k : Nat} {l_ : List (T2).T} {web_ : T7.T} {spots_ : List (T4).T} {q_ : T9.T} (h : (f_u79 k l_ web_ spots_ q_).isSome = true) : C_u79 l_ web_ spots_ q_ (v_u79 k l_ web_ spots_ q_) := ccG (Φ := C_u79 l_ web_ spots_ q_) h (of_u79 k l_ web_ spots_ q_)
abbrev R_u35 : Type := Bool
def res_u35 (r : R_u35) : AV := .r (.v (.bool r))
def bo_u35 (x_ : T5.T) (q_ : T8.T) (r : R_u35) : List (Nat × Blk) := []
def args_u35 (x_ : T5.T) (q_ : T8.T) : List AV := [.agg (rvs (enc T5 x_)), .agg (rvs (enc T8 q_))]
def bin_u35 (x_ : T5.T) (q_ : T8.T) : List Blk := []
abbrev C_u35 (x_ : T5.T) (q_ : T8.T) (r : R_u35) : Prop := CC Tryz.prog 5 (args_u35 x_ q_) (bin_u35 x_ q_) (res_u35 r) (bo_u35 x_ q_ r)
def f_u35 (k : Nat) (x_ : T5.T) (q_ : T8.T) : Option R_u35 :=
  if ((f_u40 k x_).isSome = true) then
  bif (!v_u40 k x_) then
  if ((f_u37 k ).isSome = true) then
  some (v_u37 k)
  else none
  else
  if ((f_u38 k x_).isSome = true) ∧ ((f_u11 k x_.1 (v_u38 k x_) x_.2.2.2 q_).isSome = true) then
  if ((f_u38 k x_).isSome = true) ∧ ((f_u79 k x_.1 (v_u38 k x_) x_.2.2.2 q_).isSome = true) then
  bif ((v_u11 k x_.1 (v_u38 k x_) x_.2.2.2 q_).1 == (v_u79 k x_.1 (v_u38 k x_) x_.2.2.2 q_).1 && (v_u11 k x_.1 (v_u38 k x_) x_.2.2.2 q_).2 == (v_u79 k x_.1 (v_u38 k x_) x_.2.2.2 q_).2) then
  if (((v_u11 k x_.1 (v_u38 k x_) x_.2.2.2 q_).1 == (v_u79 k x_.1 (v_u38 k x_) x_.2.2.2 q_).1 && (v_u11 k x_.1 (v_u38 k x_) x_.2.2.2 q_).2 == (v_u79 k x_.1 (v_u38 k x_) x_.2.2.2 q_).2) = true) ∧ ((f_u37 k ).isSome = true) then
  some (true && v_u37 k)
  else none
  else
  if (((v_u11 k x_.1 (v_u38 k x_) x_.2.2.2 q_).1 == (v_u79 k x_.1 (v_u38 k x_) x_.2.2.2 q_).1 && (v_u11 k x_.1 (v_u38 k x_) x_.2.2.2 q_).2 == (v_u79 k x_.1 (v_u38 k x_) x_.2.2.2 q_).2) = false) then
  some false
  else none
  else none
  else none
  else none
theorem of_u35 (k : Nat) (x_ : T5.T) (q_ : T8.T) (r : R_u35) (h : f_u35 k x_ q_ = some r) : C_u35 x_ q_ r := by
  refine CC.of (fn := Tryz.f5) (by kernel_rfl) (by kernel_rfl) (by kernel_rfl) (by kernel_rfl) ?_
  unfold f_u35 at h
  exact go (mkK [ke_u40 k, ke_u38 k, ke_u11 k, ke_u37 k, ke_u79 k]) [] [] [.autoB [4] true []] (gN1 h (fun q => cc_u40 q) fun h => gT h (fun c h => gN1 h (fun q => cc_u37 q) fun h => gL h) fun c h => gN h (fun q => conjC (cc_u38 q.1) (conjC (cc_u11 q.2) conj0)) fun h => gN h (fun q => conjC (cc_u38 q.1) (conjC (cc_u79 q.2) conj0)) fun h => gT h (fun c h => gN h (fun q => conjC q.1 (conjC (cc_u37 q.2) conj0)) fun h => gL h) fun c h => gN1 h id fun h => gL h) (by kernel_rfl)
end
theorem Select_6 (k : Nat) (q : Qn) (l : List Spt) (hl : l.length ≤ 128) : ∀ (d i j : Nat) (out : List Spt), i + d = l.length → d < j → out.length ≤ i →
    f_u68_6 k j l q.2.1 q.2.2 (i : Int) out = some (out ++ (l.drop i).filter (cntQ q), 0) := by
  intro d
  induction d with
  | zero =>
    intro i j out hi hj ho
    obtain ⟨j, rfl⟩ : ∃ q, j = q + 1 := ⟨j - 1, by omega⟩
    rw [f_u68_6, decide_eq_false (by omega : ¬ (i : Int) < (l.length : Int)), cond_false, List.drop_of_length_le (by omega), List.filter_nil, List.append_nil]
  | succ d ih =>
    intro i j out hi hj ho
    obtain ⟨j, rfl⟩ : ∃ q, j = q + 1 := ⟨j - 1, by omega⟩
    have h3 : (0 : Int) ≤ (i : Int) := by omega
    have h4 : (i : Int) < (l.length : Int) := by omega
    rw [f_u68_6, decide_eq_true h4, cond_true, Int.toNat_natCast, if_pos ⟨fun _ => h3, fun _ => h4, fun _ => h3, fun _ => h4⟩, if_pos ⟨h3, h4, by rw [List.length_singleton]; omega⟩, wrapS i (by omega), drop_cons' l i T4.dflt (by omega), List.filter_cons, ih (i + 1) j _ (by omega) (by omega) (by rw [List.length_append, List.length_singleton]; omega), ih (i + 1) j _ (by omega) (by omega) (by omega)]
    show (bif cntQ q (l.getD i T4.dflt) then _ else _) = _
    cases cntQ q (l.getD i T4.dflt)
    · rfl
    · rw [cond_true, if_pos rfl, List.append_assoc]; rfl
theorem Lengths_6 (k : Nat) (hk : 2000 ≤ k) (l : List Spt) (hl : l.length ≤ 128) : ∀ (d i j : Nat) (out : List Sp), i + d = l.length → d + 1 < j → out.length ≤ i →
    f_u66_6 k j l (i : Int) out = some (normS (out ++ (l.drop i).map (fun x => x.1.2.2))) := by
  intro d
  induction d with
  | zero =>
    intro i j out hi hj ho
    obtain ⟨j, rfl⟩ : ∃ q, j = q + 2 := ⟨j - 2, by omega⟩
    rw [f_u66_6, decide_eq_false (by omega : ¬ (i : Int) < (l.length : Int)), cond_false, List.drop_of_length_le (by omega), List.map_nil, List.append_nil, f_u66_9, ref04_Norm_s k hk, ref04_Norm_v k hk, Option.isSome_some, if_pos rfl]
  | succ d ih =>
    intro i j out hi hj ho
    obtain ⟨j, rfl⟩ : ∃ q, j = q + 1 := ⟨j - 1, by omega⟩
    have h3 : (0 : Int) ≤ (i : Int) := by omega
    have h4 : (i : Int) < (l.length : Int) := by omega
    rw [f_u66_6, decide_eq_true h4, cond_true, Int.toNat_natCast, if_pos ⟨h3, h4, h3, h4, by rw [List.length_singleton]; omega⟩, wrapS i (by omega), drop_cons' l i T4.dflt (by omega), List.map_cons, ih (i + 1) j _ (by omega) (by omega) (by rw [List.length_append, List.length_singleton]; omega), List.append_assoc]
    rfl
theorem Length_8 (k : Nat) (a : List Sp) (h : In 0 17179869184 a) (hl : a.length ≤ 256) : ∀ (j i : Nat) (n : Int), i ≤ a.length → a.length - i < j → 0 ≤ n → n ≤ (i : Int) * 17179869184 →
    f_u79_8 k j a n (i : Int) = some (n + tot (a.drop i), 0) := by
  intro j
  induction j with
  | zero => intros; omega
  | succ j ih =>
    intro i n hi hj h0 h1
    rw [f_u79_8]
    by_cases h' : i < a.length
    · have hm := h.mem (a.getD i T10.dflt) (by simp [h'])
      rw [decide_eq_true (by omega : (i : Int) < (a.length : Int)), cond_true, if_pos ⟨by omega, by omega, by omega, by omega⟩, drop_cons' a i T10.dflt h', Int.toNat_natCast]
      generalize a.getD i T10.dflt = s at hm
      rw [wrap_id (i := n + s.snd) (by omega) (by omega), wrap_id (i := n + s.snd - s.fst) (by omega) (by omega), wrapS i (by omega), ih (i + 1) _ (by omega) (by omega) (by omega) (by omega), tot]
      congr 2; omega
    · rw [decide_eq_false (by omega : ¬ (i : Int) < (a.length : Int)), cond_false, drop_all a i (by omega)]
      simp [tot]
theorem pos_in {l : List Spt} (h : ∀ x ∈ l, SpotOk x) (q : Qn) : In 0 17179869184 ((l.filter (cntQ q)).map (fun x => x.1.2.2)) := In.of fun s hs => by
  obtain ⟨x, hx, e⟩ := List.mem_map.1 hs
  obtain ⟨_, _, _, f, t, u⟩ := (h x (List.mem_filter.1 hx).1).area
  rw [← e]; exact ⟨f, t, u⟩
theorem ref43_Length_s (k : Nat) (hk : 301000 ≤ k) (l : List Ro) (web : Int × Int) (sp : List Spt) (q : Qn) : f_u79 k l web sp q = some (lengthS l web.1 web.2 sp q) := by
  have hl := spotsS_len (l := l) (W := web.1) (L := web.2) (id := q.1) (sp := sp)
  have ho := spots_ok (l := l) (W := web.1) (L := web.2) (id := q.1) (sp := sp)
  unfold f_u79 lengthS posS
  rw [ref43_Spots_s k hk, ref43_Spots_v k hk, Option.isSome_some, if_pos rfl]
  by_cases h : (spotsS l web.1 web.2 sp q.1).2 = 0
  · rw [show ((spotsS l web.1 web.2 sp q.1).2 != 0) = false by simp [h], cond_false, if_neg (fun h' : (spotsS l web.1 web.2 sp q.1).2 ≠ 0 => h' h)]
    generalize (spotsS l web.1 web.2 sp q.1).1 = a at *
    have hfl := List.length_filter_le (cntQ q) a
    have hfo : ∀ x ∈ a.filter (cntQ q), SpotOk x := fun x hx => ho x (List.mem_filter.1 hx).1
    have hs : f_u68 k a q.2.1 q.2.2 = some (a.filter (cntQ q), 0) := by
      unfold f_u68
      rw [ref36_Check_s k (by omega), ref36_Check_v k (by omega), spotsE_ok hl ho, Option.isSome_some, if_pos rfl]
      exact Select_6 k q a hl a.length 0 k [] (by omega) (by omega) (by simp)
    have hsv : v_u68 k a q.2.1 q.2.2 = (a.filter (cntQ q), 0) := by unfold v_u68; rw [hs]; rfl
    have hi := pos_in ho q
    have hc : chkS ((a.filter (cntQ q)).map (fun x => x.1.2.2)) = 0 := chkS_zero.2 ⟨by rw [List.length_map]; omega, hi⟩
    have hg : f_u66 k (a.filter (cntQ q)) = some (nf ((a.filter (cntQ q)).map (fun x => x.1.2.2)), 0) := by
      unfold f_u66
      rw [ref36_Check_s k (by omega), ref36_Check_v k (by omega), spotsE_ok (by omega) hfo, Option.isSome_some, if_pos rfl]
      refine (Lengths_6 k (by omega) (a.filter (cntQ q)) (by omega) (a.filter (cntQ q)).length 0 k [] (by omega) (by omega) (by simp)).trans ?_
      rw [List.drop_zero, List.nil_append]
      unfold normS
      rw [if_neg (fun h : chkS _ ≠ 0 => h hc)]
    have hgv : v_u66 k (a.filter (cntQ q)) = (nf ((a.filter (cntQ q)).map (fun x => x.1.2.2)), 0) := by unfold v_u66; rw [hg]; rfl
    have hn := nf_len hi
    rw [List.length_map] at hn
    rw [hs, hsv, Option.isSome_some, if_pos rfl]
    dsimp only
    rw [hg, hgv, Option.isSome_some, if_pos rfl]
    unfold totalS
    rw [if_neg (fun h : chkS _ ≠ 0 => h hc)]
    have := Length_8 k (nf ((a.filter (cntQ q)).map (fun x => x.1.2.2))) (nf_in hi) (by omega) k 0 0 (by omega) (by omega) (by omega) (by omega)
    rw [List.drop_zero, Int.zero_add] at this
    exact this
  · rw [bne_iff_ne.2 h, if_pos h]; rfl
theorem ref43_Length_v (k : Nat) (hk : 301000 ≤ k) (l : List Ro) (web : Int × Int) (sp : List Spt) (q : Qn) : v_u79 k l web sp q = lengthS l web.1 web.2 sp q := by
  unfold v_u79; rw [ref43_Length_s k hk]; rfl
theorem q_InheritLengths (k : Nat) (hk : 301000 ≤ k) (x : Pap) (q : Qn) : f_u35 k x q = some true := by
  have hs := small_s k (by omega) x
  have hfm : f_u38 k x = some (x.2.1, x.2.2.1) := rfl
  have hvm : v_u38 k x = (x.2.1, x.2.2.1) := rfl
  unfold f_u35
  rw [hs, awake43_s k hk, awake43_v k hk, hfm, hvm, inherit_Length_s k (by omega), inherit_Length_v k (by omega), ref43_Length_s k hk, ref43_Length_v k hk, beq_self_eq_true, beq_self_eq_true]
  cases v_u40 k x <;> rfl
end Go.AM
