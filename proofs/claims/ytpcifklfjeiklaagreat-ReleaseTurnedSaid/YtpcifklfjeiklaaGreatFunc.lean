/- Contracts of the functions that the law reaches, and the plain law. -/
import Derived.Test.YtpcifklfjeiklaaGreatFunb
set_option linter.unusedVariables false
set_option linter.unusedSimpArgs false
set_option linter.unusedSectionVars false
namespace Go.AM
open Go Go.Proofs

/-! ### normal forms: how many runs -/
def Nf : List Rn → Prop
  | [] => True
  | [_] => True
  | c :: d :: t => apart c d = true ∧ Nf (d :: t)
theorem apart_iff {c r : Rn} : apart c r = true ↔ (stp c r ≠ 1 ∧ stp c r ≠ -1) ∨ (c.2.1 > 1 ∧ ¬ ((stp c r == -1) = c.2.2)) := by
  unfold apart
  rw [Bool.or_eq_true, Bool.and_eq_true, Bool.and_eq_true, bne_iff_ne, bne_iff_ne, decide_eq_true_iff, Bool.not_eq_true', beq_eq_false_iff_ne]
theorem apart_at {p c c' : Rn} (h : c'.1 = c.1) : apart p c' = apart p c := by unfold apart stp; rw [h]
theorem nf_snoc : ∀ {b : List Rn} {c d : Rn}, Nf (b ++ [c]) → apart c d = true → Nf (b ++ [c] ++ [d])
  | [], c, d, _, h => ⟨h, trivial⟩
  | [x], c, d, h, e => ⟨h.1, e, trivial⟩
  | x :: y :: t, c, d, h, e => ⟨h.1, nf_snoc (b := y :: t) h.2 e⟩
theorem nf_change : ∀ {b : List Rn} {c c' : Rn}, Nf (b ++ [c]) → c'.1 = c.1 → Nf (b ++ [c'])
  | [], _, _, _, _ => trivial
  | [x], c, c', h, e => ⟨(apart_at e).trans h.1, trivial⟩
  | x :: y :: t, c, c', h, e => ⟨h.1, nf_change (b := y :: t) h.2 e⟩
theorem img0 (r : Rn) : img r 0 = r.1 := by unfold img; split <;> omega
theorem addS_nf {b : List Rn} {r : Rn} (hb : Nf b) (hg : goods b) (hr : good r) : Nf (addS b r) := by
  have hr1 := hr.1
  unfold addS
  rw [if_neg (by omega)]
  rcases List.eq_nil_or_concat b with e | ⟨i, c, e⟩
  · subst e; exact trivial
  · rw [List.concat_eq_append] at e
    subst e
    have hc : 1 ≤ c.2.1 := (goods.mem hg c (by simp)).1
    rw [List.getLast?_concat]
    dsimp only
    cases ha : apart c r
    · rw [cond_false, List.dropLast_concat]
      have hna : ¬ apart c r = true := by rw [ha]; decide
      rw [apart_iff] at hna
      have hst : stp c r = 1 ∨ stp c r = -1 := by omega
      cases hd : (decide (r.2.1 > 1) && !(r.2.2 == (stp c r == -1)))
      · rw [cond_false]; exact nf_change hb rfl
      · rw [cond_true]
        refine nf_snoc (b := i) (c := (c.1, c.2.1 + 1, stp c r == -1)) (d := prt r 1 (r.2.1 - 1)) (nf_change hb rfl) ?_ |> fun h => by rw [List.append_assoc] at h; exact h
        rw [apart_iff]
        right
        refine ⟨by show c.2.1 + 1 > 1; omega, ?_⟩
        rw [Bool.and_eq_true, Bool.not_eq_true', beq_eq_false_iff_ne] at hd
        have hne := hd.2
        have hs : stp (c.1, c.2.1 + 1, stp c r == -1) (prt r 1 (r.2.1 - 1)) = if r.2.2 = true then -1 else 1 := by
          have h0 : stp c r = r.1 - img c (c.2.1 - 1) := rfl
          show img r 1 - img (c.1, c.2.1 + 1, stp c r == -1) (c.2.1 + 1 - 1) = _
          have h1 : img (c.1, c.2.1 + 1, stp c r == -1) (c.2.1 + 1 - 1) = r.1 := by
            have hdir : c.2.1 > 1 → (stp c r == -1) = c.2.2 := fun h => Classical.not_not.1 fun q => hna (.inr ⟨h, q⟩)
            unfold img at h0 ⊢
            dsimp only
            by_cases h1 : c.2.1 > 1
            · rw [hdir h1]
              have hdd := hdir h1
              rcases hst with e | e
              · rw [e] at hdd h0
                have : c.2.2 = false := hdd.symm
                rw [this] at h0 ⊢
                simp only [Bool.false_eq_true, if_false] at h0 ⊢; omega
              · rw [e] at hdd h0
                have : c.2.2 = true := hdd.symm
                rw [this] at h0 ⊢
                simp only [if_true] at h0 ⊢; omega
            · have h2 : c.2.1 = 1 := by omega
              have h3 : stp c r = r.1 - c.1 := by rw [h0, h2]; split <;> omega
              rcases hst with e | e
              · rw [e, show ((1 : Int) == -1) = false from rfl, if_neg Bool.false_ne_true]; omega
              · rw [e, show ((-1 : Int) == -1) = true from rfl, if_pos rfl]; omega
          rw [h1]
          unfold img
          split <;> omega
        rw [hs]
        intro h
        apply hne
        show r.2.2 = (stp c r == -1)
        rw [← show (((if r.2.2 = true then (-1 : Int) else 1) == -1)) = (stp c r == -1) from h]
        cases r.2.2 <;> rfl
    · rw [cond_true]
      exact nf_snoc hb ((apart_at (show (prt r 0 r.2.1).1 = r.1 from img0 r)).trans ha)
theorem adds_nf : ∀ {l b : List Rn}, Nf b → goods b → goods l → Nf (adds b l)
  | [], _, hb, _, _ => hb
  | r :: t, b, hb, hg, ⟨hr, ht⟩ => adds_nf (l := t) (addS_nf hb hg hr) (addS_spec b r hg hr).1 ht

/-! ### counting breaks -/
theorem cnt_add (P : Int → Bool) (a : Nat) : ∀ b : Nat, cnt P (a + b) = cnt P a + cnt (fun x => P (x + a)) b
  | 0 => rfl
  | b + 1 => by
    rw [← Nat.add_assoc, cnt, cnt, cnt_add P a b, show ((a + b : Nat) : Int) = (b : Int) + a by omega]; omega
theorem cnt_flip : ∀ (n : Nat) (P : Int → Bool), cnt P n = cnt (fun x => P ((n : Int) - 1 - x)) n
  | 0, _ => rfl
  | n + 1, P => by
    rw [show n + 1 = 1 + n by omega, cnt_add (fun x => P (((1 + n : Nat) : Int) - 1 - x)) 1 n, show (1 + n : Nat) = n + 1 by omega, cnt]
    have e1 : cnt (fun x => P (((n + 1 : Nat) : Int) - 1 - x)) 1 = if P (n : Int) = true then 1 else 0 := by
      unfold cnt cnt
      rw [Nat.zero_add]
      show (if P (((n + 1 : Nat) : Int) - 1 - ((0 : Nat) : Int)) = true then 1 else 0) = _
      rw [show ((n + 1 : Nat) : Int) - 1 - ((0 : Nat) : Int) = (n : Int) by omega]
    have e2 : cnt (fun x => P (((n + 1 : Nat) : Int) - 1 - (x + ((1 : Nat) : Int)))) n = cnt P n := by
      rw [cnt_flip n P]
      exact cnt_congr n fun x _ _ => by rw [show ((n + 1 : Nat) : Int) - 1 - (x + ((1 : Nat) : Int)) = (n : Int) - 1 - x by omega]
    rw [e1, e2]; omega
theorem cnt_one {P : Int → Bool} : ∀ {a : Nat}, 1 ≤ a → P 0 = true → (∀ x : Int, 0 < x → x < a → P x = false) → cnt P a = 1
  | 0, h, _, _ => by omega
  | 1, _, h0, _ => by
    have h0 : P ((0 : Nat) : Int) = true := h0
    unfold cnt cnt
    rw [if_pos h0]
  | a + 2, _, h0, h => by
    rw [cnt, cnt_one (a := a + 1) (by omega) h0 (fun x x0 x1 => h x x0 (by omega)), h _ (by omega) (by omega)]; rfl
def brkT (m : List Rn) (x : Int) : Bool := decide (x = 0) || !(decide (imgAt m x - imgAt m (x - 1) = 1) || decide (imgAt m x - imgAt m (x - 1) = -1))
theorem nf_count : ∀ {m : List Rn}, goods m → Nf m → Inj m → m.length = cnt (brkT m) (lenS m).toNat
  | [], _, _, _ => rfl
  | r :: t, ⟨g1, g2⟩, hn, hi => by
    have hr := g1.1
    have hl := lenS_nonneg g2
    have hit : Inj t := fun x y a b c d e => by
      have := hi (r.2.1 + x) (r.2.1 + y) (by omega) (by rw [lenS]; omega) (by omega) (by rw [lenS]; omega) (by rw [imgAt_ge (by omega), imgAt_ge (by omega), show r.2.1 + x - r.2.1 = x by omega, show r.2.1 + y - r.2.1 = y by omega, e])
      omega
    have hnt : Nf t := by
      cases t with
      | nil => exact trivial
      | cons d u => exact hn.2
    have ih := nf_count g2 hnt hit
    have ht : (lenS (r :: t)).toNat = r.2.1.toNat + (lenS t).toNat := by rw [lenS]; omega
    have hc : ((r.2.1.toNat : Nat) : Int) = r.2.1 := by omega
    rw [ht, cnt_add, List.length_cons, ih]
    have e1 : cnt (brkT (r :: t)) r.2.1.toNat = 1 := cnt_one (by omega) rfl fun x x0 x1 => by
      have hd : imgAt (r :: t) x - imgAt (r :: t) (x - 1) = 1 ∨ imgAt (r :: t) x - imgAt (r :: t) (x - 1) = -1 := by
        rw [imgAt_lt (by omega), imgAt_lt (by omega)]
        unfold img
        split <;> omega
      unfold brkT
      rw [decide_eq_false (by omega : ¬ x = 0)]
      rcases hd with h | h
      · rw [decide_eq_true h]; rfl
      · rw [decide_eq_true h, Bool.or_true]; rfl
    have e2 : cnt (fun x => brkT (r :: t) (x + (r.2.1.toNat : Int))) (lenS t).toNat = cnt (brkT t) (lenS t).toNat := cnt_congr _ fun x x0 x1 => by
      rw [hc]
      by_cases hx : x = 0
      · subst hx
        have hb : brkT t 0 = true := rfl
        rw [hb]
        cases t with
        | nil => rw [lenS] at x1; exact absurd x1 (by decide)
        | cons d u =>
          have ha := hn.1
          have gd := g2.1.1
          have e3 : imgAt (r :: d :: u) (0 + r.2.1) = d.1 := by
            rw [imgAt_ge (by omega), show 0 + r.2.1 - r.2.1 = 0 by omega, imgAt_lt (by omega), img0]
          have e4 : imgAt (r :: d :: u) (0 + r.2.1 - 1) = img r (r.2.1 - 1) := by
            rw [imgAt_lt (by omega), show 0 + r.2.1 - 1 = r.2.1 - 1 by omega]
          have hst : stp r d ≠ 1 ∧ stp r d ≠ -1 := by
            rcases apart_iff.1 ha with h | ⟨h, q⟩
            · exact h
            · refine Classical.not_not.1 fun hns => ?_
              have hs : stp r d = 1 ∨ stp r d = -1 := by omega
              have hs0 : stp r d = d.1 - img r (r.2.1 - 1) := rfl
              have e5 : imgAt (r :: d :: u) (r.2.1 - 2) = d.1 := by
                rw [imgAt_lt (by omega)]
                unfold img at hs0 ⊢
                rcases hs with e | e
                · rw [e] at q hs0
                  cases hb : r.2.2
                  · exact absurd (by rw [hb]; rfl) q
                  · rw [hb] at hs0
                    simp only [if_true] at hs0 ⊢; omega
                · rw [e] at q hs0
                  cases hb : r.2.2
                  · rw [hb] at hs0
                    simp only [Bool.false_eq_true, if_false] at hs0 ⊢; omega
                  · exact absurd (by rw [hb]; rfl) q
              have := hi (0 + r.2.1) (r.2.1 - 2) (by omega) (by rw [lenS, lenS]; have := lenS_nonneg g2.2; omega) (by omega) (by rw [lenS, lenS]; have := lenS_nonneg g2.2; omega) (by rw [e3, e5])
              omega
          unfold brkT
          rw [e3, e4]
          have hs0 : stp r d = d.1 - img r (r.2.1 - 1) := rfl
          rw [decide_eq_false (by omega : ¬ (d.1 - img r (r.2.1 - 1) = 1)), decide_eq_false (by omega : ¬ (d.1 - img r (r.2.1 - 1) = -1)), Bool.or_self, Bool.not_false, Bool.or_true]
      · unfold brkT
        rw [imgAt_ge (by omega), imgAt_ge (by omega), show x + r.2.1 - r.2.1 = x by omega, show x + r.2.1 - 1 - r.2.1 = x - 1 by omega, decide_eq_false (by omega : ¬ x + r.2.1 = 0), decide_eq_false hx]
    rw [e1, e2]; omega
/-- a map from its end has as many runs -/
theorem rev_count {m m' : List Rn} (hg : goods m) (hn : Nf m) (hi : Inj m) (hg' : goods m') (hn' : Nf m') (hl : lenS m' = lenS m) (he : ∀ x, 0 ≤ x → x < lenS m → imgAt m' x = imgAt m (lenS m - 1 - x)) : m'.length = m.length := by
  have hi' : Inj m' := fun x y a b c d e => by
    rw [hl] at b d
    rw [he x a b, he y c d] at e
    have := hi _ _ (by omega) (by omega) (by omega) (by omega) e
    omega
  have h0 := lenS_nonneg hg
  rw [nf_count hg' hn' hi', nf_count hg hn hi, hl]
  generalize hN : (lenS m).toNat = N
  have hN : lenS m = (N : Int) := by omega
  cases N with
  | zero => rfl
  | succ M =>
    rw [show M + 1 = 1 + M by omega, cnt_add, cnt_add (brkT m), cnt_flip M]
    have e1 : cnt (brkT m') 1 = cnt (brkT m) 1 := cnt_congr 1 fun x x0 x1 => by
      have : x = 0 := by omega
      subst this; rfl
    rw [e1]
    refine congrArg (cnt (brkT m) 1 + ·) (cnt_congr M fun x x0 x1 => ?_)
    unfold brkT
    have hM : lenS m = (M : Int) + 1 := by rw [hN]; omega
    rw [he _ (by omega) (by omega), he _ (by omega) (by omega), decide_eq_false (by omega : ¬ (M : Int) - 1 - x + ((1 : Nat) : Int) = 0), decide_eq_false (by omega : ¬ x + ((1 : Nat) : Int) = 0), show lenS m - 1 - ((M : Int) - 1 - x + ((1 : Nat) : Int)) = x + ((1 : Nat) : Int) - 1 by omega, show lenS m - 1 - ((M : Int) - 1 - x + ((1 : Nat) : Int) - 1) = x + ((1 : Nat) : Int) by omega, Bool.false_or, Bool.false_or]
    generalize imgAt m (x + ((1 : Nat) : Int) - 1) = p
    generalize imgAt m (x + ((1 : Nat) : Int)) = q
    rw [Bool.or_comm, decide_eq_decide.2 (by omega : p - q = -1 ↔ q - p = 1), decide_eq_decide.2 (by omega : p - q = 1 ↔ q - p = -1)]

/-! ### what lies in a span, from the end -/
def mirS (n : Int) (l : List Sp) : List Sp := (l.map fun u => (n - u.2, n - u.1)).reverse
theorem nr_app : ∀ {l : List Sp} {b : Int} {u : Sp}, Nr b l → (∀ v ∈ l, v.2 < u.1) → b < u.1 → u.1 < u.2 → Nr b (l ++ [u])
  | [], b, u, _, _, h1, h2 => ⟨h1, h2, trivial⟩
  | s :: t, b, u, ⟨a, c, d⟩, h, _, h2 => ⟨a, c, nr_app d (fun v hv => h v (by simp [hv])) (h s (by simp)) h2⟩
theorem nr_from : ∀ {l : List Sp} {b : Int}, Nr b l → ∀ v ∈ l, b < v.1 ∧ v.1 < v.2
  | [], _, _, v, hv => by simp at hv
  | s :: t, b, ⟨a, c, d⟩, v, hv => by
    rcases List.mem_cons.1 hv with e | h
    · rw [e]; exact ⟨a, c⟩
    · have := nr_from d v h
      exact ⟨by omega, this.2⟩
theorem nr_mir {n : Int} : ∀ {l : List Sp} {b : Int}, Nr b l → (∀ v ∈ l, v.2 ≤ n) → Nr (-1) (mirS n l)
  | [], _, _, _ => trivial
  | s :: t, b, ⟨a, c, d⟩, h => by
    have hs := h s (by simp)
    unfold mirS
    rw [List.map_cons, List.reverse_cons]
    refine nr_app (nr_mir d fun v hv => h v (by simp [hv])) (fun v hv => ?_) (by show -1 < n - s.2; omega) (by show n - s.2 < n - s.1; omega)
    rw [List.mem_reverse] at hv
    obtain ⟨w, hw, e⟩ := List.mem_map.1 hv
    have := nr_from d w hw
    rw [← e]; show n - w.1 < n - s.2; omega
theorem has_mir (n : Int) (l : List Sp) (x : Int) : has (mirS n l) x ↔ has l (n - 1 - x) := by
  rw [has_iff, has_iff]
  unfold mirS
  constructor
  · rintro ⟨s, hs, a, b⟩
    rw [List.mem_reverse] at hs
    obtain ⟨u, hu, e⟩ := List.mem_map.1 hs
    rw [← e] at a b
    exact ⟨u, hu, by change n - u.2 ≤ x at a; change x < n - u.1 at b; omega, by change n - u.2 ≤ x at a; omega⟩
  · rintro ⟨u, hu, a, b⟩
    exact ⟨(n - u.2, n - u.1), List.mem_reverse.2 (List.mem_map.2 ⟨u, hu, rfl⟩), by show n - u.2 ≤ x; omega, by show x < n - u.1; omega⟩
theorem find_mir {m m' : List Rn} (hc : Chk m) (hc' : Chk m') (hl : lenS m' = lenS m) (he : ∀ x, 0 ≤ x → x < lenS m → imgAt m' x = imgAt m (lenS m - 1 - x)) (s : Sp) : (findS m' s).1.length = (findS m s).1.length := by
  have f : ∀ m : List Rn, Chk m → findS m s = if s.1 < 0 ∨ s.1 > s.2 ∨ s.2 > 17179869184 then ([], 1) else (nf (fndS m 0 s), 0) := fun m hc => by
    unfold findS
    rw [if_neg (fun h => h (chk_zero.2 hc))]
  rw [f m hc, f m' hc']
  by_cases h : s.1 < 0 ∨ s.1 > s.2 ∨ s.2 > 17179869184
  · rw [if_pos h, if_pos h]
  · rw [if_neg h, if_neg h]
    show (nf (fndS m' 0 s)).length = (nf (fndS m 0 s)).length
    have hi := find_in hc s
    have hi' := find_in hc' s
    have hb : ∀ v ∈ nf (fndS m 0 s), v.2 ≤ lenS m := fun v hv => by
      have h2 := (nf_nr hi).pos v hv
      have h1 := (nf_has hi (v.2 - 1)).1 ((has_iff _ _).2 ⟨v, hv, by omega, by omega⟩)
      have := (fndS_has m 0 s (v.2 - 1) hc.goods).1 h1
      omega
    have hu := nf_uniq hi' (nr_mir (n := lenS m) (nf_nr hi) hb) fun x => by
      rw [has_mir, nf_has hi, fndS_has m 0 s _ hc.goods, fndS_has m' 0 s _ hc'.goods, hl]
      by_cases hx : 0 ≤ x ∧ x < lenS m
      · rw [show x - 0 = x by omega, he x hx.1 hx.2, show lenS m - 1 - x - 0 = lenS m - 1 - x by omega]
        omega
      · constructor
        · intro q; omega
        · intro q; omega
    rw [← hu]
    unfold mirS
    rw [List.length_reverse, List.length_map]
/-! ### a roll that is rewound whole -/
theorem compS_nf {outer : List Rn} (ho : goods outer) : ∀ (inner b : List Rn), goods inner → fitsIn (lenS outer) inner → goods b → Nf b → Nf (inner.foldl (fun b r => adds b (steps outer r)) b)
  | [], _, _, _, _, h => h
  | r :: t, b, ⟨hr, ht⟩, ⟨hf, hft⟩, hb, hn => by
    obtain ⟨s1, s2, s3⟩ := steps_spec outer r ho hr hf
    exact compS_nf ho t (adds b (steps outer r)) ht hft (adds_spec (steps outer r) b hb s1).1 (adds_nf hn hb s1)
theorem comp_nf {inner outer m : List Rn} (h : comp inner outer = (m, 0)) : Nf m := by
  obtain ⟨c1, c2, c3, _, _, _⟩ := comp_spec h
  have e : compS inner outer = m := by
    unfold comp at h
    rw [if_neg (fun h => h (chk_zero.2 c1)), if_neg (fun h => h (chk_zero.2 c2)), if_neg (fun h => h c3)] at h
    by_cases h4 : (compS inner outer).length > 256
    · rw [if_pos h4] at h; exact absurd (congrArg Prod.snd h) (fun e => by cases e)
    · rw [if_neg h4] at h; exact congrArg Prod.fst h
  rw [← e]
  exact compS_nf c2.goods inner [] c1.goods c3 trivial trivial
theorem base_nf (W L : Int) : Nf (baseS W L).2.2.2 := by
  show Nf (if L > 0 then [(0, L, false)] else [])
  split <;> exact trivial
theorem cutS_root (l : List Ro) (W L : Int) : ∀ m : Nat, cutS l W L m 0 = (baseS W L, 0)
  | 0 => rfl
  | m + 1 => by unfold cutS; rw [if_pos rfl]
theorem cutS_step {l : List Ro} (W L : Int) {id : Int} {r : Ro} (m : Nat) (h0 : id ≠ 0) (e : look l id = some r) : cutS l W L (m + 1) id = cutJ r (cutS l W L m r.2.1) := by
  rw [cutS, if_neg h0, e]
theorem cutS_nf {l : List Ro} {W L : Int} {n : Nat} {id : Int} {c : Ch} (h : cutS l W L n id = (c, 0)) : Nf c.2.2.2 := by
  cases n with
  | zero =>
    have := congrArg Prod.fst h
    rw [← show baseS W L = c from this]; exact base_nf W L
  | succ n =>
    by_cases h0 : id = 0
    · subst h0
      rw [cutS_root] at h
      rw [← show baseS W L = c from congrArg Prod.fst h]; exact base_nf W L
    · cases e : look l id with
      | none =>
        rw [cutS, if_neg h0, e] at h
        rw [← show baseS W L = c from congrArg Prod.fst h]; exact base_nf W L
      | some r =>
        rw [cutS_step W L n h0 e] at h
        generalize cutS l W L n r.2.1 = o at h
        unfold cutJ at h
        by_cases h1 : o.2 = 0
        · rw [if_neg (fun q => q h1)] at h
          by_cases h2 : (comp r.2.2.2.2.2 o.1.2.2.2).2 = 0
          · rw [if_neg (fun q => q h2)] at h
            have hc := congrArg (fun z : Ch × Int => z.1.2.2.2) h
            have hc : (comp r.2.2.2.2.2 o.1.2.2.2).1 = c.2.2.2 := hc
            rw [← hc]
            exact comp_nf (inner := r.2.2.2.2.2) (outer := o.1.2.2.2) (by rw [← h2])
          · rw [if_pos h2] at h; exact absurd (congrArg Prod.snd h) h2
        · rw [if_pos h1] at h; exact absurd (congrArg Prod.snd h) h1
theorem cutS_left {R : List Ro} (W L : Int) (t : List Ro) : ∀ (n : Nat) (id : Int), Anc R n id → ∀ m m' : Nat, n ≤ m → n ≤ m' → cutS (R ++ t) W L m id = cutS R W L m' id := by
  intro n
  induction n with
  | zero =>
    intro id ha m m' _ _
    by_cases h0 : id = 0
    · subst h0; rw [cutS_root, cutS_root]
    · obtain ⟨_, _, e, _⟩ := ha.cases h0
      cases e
  | succ n ih =>
    intro id ha m m' hm hm'
    by_cases h0 : id = 0
    · subst h0; rw [cutS_root, cutS_root]
    · obtain ⟨k, r, ek, e, a⟩ := ha.cases h0
      cases ek
      obtain ⟨m, rfl⟩ : ∃ q, m = q + 1 := ⟨m - 1, by omega⟩
      obtain ⟨m', rfl⟩ : ∃ q, m' = q + 1 := ⟨m' - 1, by omega⟩
      rw [cutS_step W L m h0 (look_left t e), cutS_step W L m' h0 e, ih r.2.1 a m m' (by omega) (by omega)]
def turnR (fresh id w n : Int) : Ro := (fresh, id, 0, w, false, [(n - 1, n, true)])
theorem turn_good {n : Int} (h1 : 1 ≤ n) (h2 : n ≤ 17179869184) : good (n - 1, n, true) := by
  unfold good
  exact ⟨h1, h2, by show 0 ≤ n - 1; omega, by show n - 1 < 17179869184; omega, fun _ => by show 0 ≤ n - 1 - n + 1; omega, fun h => nomatch h⟩
theorem turn_chk {n : Int} (h1 : 1 ≤ n) (h2 : n ≤ 17179869184) : Chk [((n - 1 : Int), n, true)] := ⟨by show 1 ≤ 256; decide, ⟨turn_good h1 h2, trivial⟩, by show n + 0 ≤ 17179869184; omega⟩
theorem turned_reg {R : List Ro} {W L id fresh : Int} (hk : Kno R W L id) (hf : ∀ r ∈ R, r.1 + 1 ≤ fresh) (f1 : 1 ≤ fresh) (f2 : fresh ≤ 1000000) (hp : ∀ r ∈ R, r.2.1 ≠ id) (hl : R.length < 512) (hn : 1 ≤ (sizeS R W L id).2) : Kno (R ++ [turnR fresh id (sizeS R W L id).1 (sizeS R W L id).2]) W L fresh ∧ look (R ++ [turnR fresh id (sizeS R W L id).1 (sizeS R W L id).2]) fresh = some (turnR fresh id (sizeS R W L id).1 (sizeS R W L id).2) := by
  obtain ⟨reg, kn⟩ := hk
  have hw := size_ge reg kn
  have hsz := reg.small 512 id (reg.anc kn)
  generalize hW : (sizeS R W L id).1 = w at *
  generalize hN : (sizeS R W L id).2 = n at *
  have hln : look R fresh = none := by
    unfold look
    rw [List.find?_eq_none]
    intro r hr e
    have := hf r hr
    have e : r.1 = fresh := by simpa using e
    omega
  have hlk : look (R ++ [turnR fresh id w n]) fresh = some (turnR fresh id w n) := by
    unfold look at hln ⊢
    rw [List.find?_append, hln, Option.none_or, List.find?_cons]
    show (match (fresh == fresh) with | true => some (turnR fresh id w n) | false => _) = _
    rw [beq_self_eq_true]
  refine ⟨⟨⟨reg.w, reg.len, by rw [List.length_append, List.length_singleton]; omega, ?_⟩, .inr ⟨_, hlk⟩⟩, hlk⟩
  refine Okp.snoc R (turnR fresh id w n) reg.ok ⟨f1, f2, kn, ?_⟩ hln ?_
  · show CutOk (0, w, false, [(n - 1, n, true)]) (sizeS R W L id).1 (sizeS R W L id).2
    rw [hW, hN]
    refine ⟨Int.le_refl 0, hw, by show 0 + w ≤ w; omega, turn_chk hn (by omega), by simp, ?_, ⟨by show n - 1 < n; omega, trivial⟩⟩
    refine single_one _ (turn_good hn (by omega)) (chk_zero.2 (turn_chk hn (by omega))) ⟨?_, ?_, trivial⟩
    · show -1 < n - 1 - n + 1; omega
    · show n - 1 - n + 1 < n - 1 + 1; omega
  · unfold clash
    rw [List.any_eq_false]
    intro b hb
    have := hp b hb
    show ¬ ((id == b.2.1) && _) = true
    rw [show (id == b.2.1) = false from beq_eq_false_iff_ne.2 fun e => this e.symm]
    exact Bool.false_ne_true
structure Same (c c' : Ch) : Prop where
  left : c'.1 = c.1
  width : c'.2.1 = c.2.1
  turn : c'.2.2.1 = c.2.2.1
  chk : Chk c'.2.2.2
  len : lenS c'.2.2.2 = lenS c.2.2.2
  img : ∀ x, 0 ≤ x → x < lenS c.2.2.2 → imgAt c'.2.2.2 x = imgAt c.2.2.2 (lenS c.2.2.2 - 1 - x)
  num : c'.2.2.2.length = c.2.2.2.length
theorem turned_cut {R : List Ro} {W L id fresh : Int} (h : (cutFull R W L id).2 = 0) (hf : ∀ r ∈ R, r.1 + 1 ≤ fresh) (f1 : 1 ≤ fresh) (f2 : fresh ≤ 1000000) (hp : ∀ r ∈ R, r.2.1 ≠ id) (hl : R.length < 512) (hn : 1 ≤ (sizeS R W L id).2) : ∃ c', cutFull (R ++ [turnR fresh id (sizeS R W L id).1 (sizeS R W L id).2]) W L fresh = (c', 0) ∧ Same (cutFull R W L id).1 c' := by
  have hk := cut_err h
  obtain ⟨reg, ci⟩ := cut_in h
  obtain ⟨hk', hlk⟩ := turned_reg hk hf f1 f2 hp hl hn
  have hci := cut_inj h
  have hW := reg.w
  have hcl := ci.left
  have hcr := ci.right
  have hw := size_ge reg hk.kn
  have hC : cutFull R W L id = cutS R W L 512 id := by unfold cutFull; rw [if_neg (fun q : errS R W L id ≠ 0 => q (errS_zero.2 hk))]
  have hnf : Nf (cutFull R W L id).1.2.2.2 := cutS_nf (l := R) (W := W) (L := L) (n := 512) (id := id) (by rw [← hC, ← h])
  have ha : Anc R 511 id := by
    rcases hk.kn with e | ⟨q, e⟩
    · rw [e]; exact .root _
    · have := reg.ok.anc q (look_some e).1
      rw [(look_some e).2] at this
      exact this.mono (by omega)
  have hC' : cutFull (R ++ [turnR fresh id (sizeS R W L id).1 (sizeS R W L id).2]) W L fresh = cutJ (turnR fresh id (sizeS R W L id).1 (sizeS R W L id).2) (cutFull R W L id) := by
    unfold cutFull
    rw [if_neg (fun q : errS _ W L fresh ≠ 0 => q (errS_zero.2 hk')), if_neg (fun q : errS R W L id ≠ 0 => q (errS_zero.2 hk)), cutS_step W L 511 (by omega) hlk]
    show cutJ _ (cutS _ W L 511 id) = _
    rw [cutS_left W L [turnR fresh id (sizeS R W L id).1 (sizeS R W L id).2] 511 id ha 511 512 (Nat.le_refl _) (by omega)]
  have hcw := ci.width
  have hcl2 := ci.len
  have hck := ci.chk
  have hct := ci.chk.tot
  rw [hC']
  generalize (cutFull R W L id) = o at *
  generalize (sizeS R W L id).1 = w at *
  generalize (sizeS R W L id).2 = n at *
  obtain ⟨s1, s2, s3⟩ := compS_spec o.1.2.2.2 hck.goods [((n - 1 : Int), n, true)] [] (turn_chk hn (by omega)).goods ⟨by show n - 1 < _; omega, trivial⟩ trivial
  have s1 : goods (compS [((n - 1 : Int), n, true)] o.1.2.2.2) := s1
  have s2 : lenS (compS [((n - 1 : Int), n, true)] o.1.2.2.2) = n := by
    have : lenS (compS [((n - 1 : Int), n, true)] o.1.2.2.2) = 0 + (n + 0) := s2
    omega
  have s3 : ∀ x, 0 ≤ x → x < n → imgAt (compS [((n - 1 : Int), n, true)] o.1.2.2.2) x = imgAt o.1.2.2.2 (lenS o.1.2.2.2 - 1 - x) := fun x x0 x1 => by
    have := s3 x x0 (by show x < 0 + (n + 0); omega)
    have this : imgAt (compS [((n - 1 : Int), n, true)] o.1.2.2.2) x = _ := this
    rw [this, if_neg (by show ¬ x < 0; omega)]
    show imgAt o.1.2.2.2 (imgAt [((n - 1 : Int), n, true)] (x - 0)) = _
    rw [show imgAt [((n - 1 : Int), n, true)] (x - 0) = n - 1 - x from by
      unfold imgAt
      rw [if_pos (by show x - 0 < n; omega)]
      show n - 1 - (x - 0) = _; omega, hcl2]
  have s4 : Nf (compS [((n - 1 : Int), n, true)] o.1.2.2.2) := compS_nf hck.goods [((n - 1 : Int), n, true)] [] (turn_chk hn (by omega)).goods ⟨by show n - 1 < _; omega, trivial⟩ trivial trivial
  have s5 := rev_count (m' := compS [((n - 1 : Int), n, true)] o.1.2.2.2) hck.goods hnf hci s1 s4 (by rw [s2, hcl2]) (fun x x0 x1 => s3 x x0 (by omega))
  have hcm : comp [((n - 1 : Int), n, true)] o.1.2.2.2 = (compS [((n - 1 : Int), n, true)] o.1.2.2.2, 0) := by
    unfold comp
    rw [if_neg (fun q => q (chk_zero.2 (turn_chk hn (by omega)))), if_neg (fun q => q (chk_zero.2 hck)), if_neg (fun q => q ⟨by show n - 1 < _; omega, trivial⟩), if_neg (by rw [s5]; have := hck.len; omega)]
  refine ⟨(o.1.1, o.1.2.1, o.1.2.2.1, compS [((n - 1 : Int), n, true)] o.1.2.2.2), ?_, ⟨rfl, rfl, rfl, ⟨by show _ ≤ 256; rw [s5]; exact hck.len, s1, by rw [s2]; omega⟩, by rw [s2, hcl2], fun x x0 x1 => s3 x x0 (by omega), s5⟩⟩
  unfold cutJ turnR
  dsimp only
  rw [if_neg (fun q : o.2 ≠ 0 => q h), hcm, if_neg (fun q : (0 : Int) ≠ 0 => q rfl), wrap_id (i := o.1.1 + o.1.2.1) (by omega) (by omega), wrap_id (i := o.1.1 + o.1.2.1 - 0) (by omega) (by omega), wrap_id (i := o.1.1 + o.1.2.1 - 0 - w) (by omega) (by omega), wrap_id (i := o.1.1 + 0) (by omega) (by omega), hcw, show (!(o.1.2.2.1 == false)) = o.1.2.2.1 by cases o.1.2.2.1 <;> rfl]
  have e : (if o.1.2.2.1 = true then o.1.1 + w - 0 - w else o.1.1 + 0) = o.1.1 := by split <;> omega
  rw [e]

/-! ### the same facts -/
theorem same_fndl {c c' : Ch} (hs : Same c c') (hc : Chk c.2.2.2) (x : Spt) : (fndl c' x).map (fun y => y.2.2) = (fndl c x).map (fun y => y.2.2) := by
  have hl := find_mir hc hs.chk hs.len hs.img x.1.2.2
  unfold fndl
  rw [hs.left, hs.width]
  by_cases h : max x.1.1 c.1 ≥ min x.1.2.1 (c.1 + c.2.1)
  · rw [if_pos h, if_pos h]
  · rw [if_neg h, if_neg h, List.map_map, List.map_map]
    show (findS c'.2.2.2 x.1.2.2).1.map (fun _ => x.2.2) = (findS c.2.2.2 x.1.2.2).1.map (fun _ => x.2.2)
    rw [List.map_const', List.map_const', hl]
theorem same_spGo {c c' : Ch} (hs : Same c c') (hc : Chk c.2.2.2) : ∀ sp : List Spt, (spGoS c' sp).map (fun y => y.2.2) = (spGoS c sp).map (fun y => y.2.2)
  | [] => rfl
  | x :: t => by
    unfold spGoS
    rw [List.map_append, List.map_append, same_fndl hs hc x, same_spGo hs hc t]
theorem topS_map : ∀ (l l' : List Spt) (n : Int), l'.map (fun y => y.2.2) = l.map (fun y => y.2.2) → topS l' n = topS l n
  | [], [], _, _ => rfl
  | [], _ :: _, _, h => by simp at h
  | _ :: _, [], _, h => by simp at h
  | x :: t, y :: u, n, h => by
    rw [List.map_cons, List.map_cons] at h
    have h1 : y.2.2 = x.2.2 := (List.cons.inj h).1
    unfold topS
    rw [h1]
    exact topS_map t u _ (List.cons.inj h).2
theorem same_worst {R R' : List Ro} {W L id id' : Int} {sp : List Spt} (h : (cutFull R W L id).2 = 0) (h' : (cutFull R' W L id').2 = 0) (hs : Same (cutFull R W L id).1 (cutFull R' W L id').1) : worstS R' W L sp id' = worstS R W L sp id := by
  have hc := (cut_in h).2.chk
  have hm := same_spGo hs hc sp
  have hl : (spGoS (cutFull R' W L id').1 sp).length = (spGoS (cutFull R W L id).1 sp).length := by
    have := congrArg List.length hm
    rw [List.length_map, List.length_map] at this
    exact this
  unfold worstS spotsS
  rw [if_neg (fun q : (cutFull R W L id).2 ≠ 0 => q h), if_neg (fun q : (cutFull R' W L id').2 ≠ 0 => q h')]
  by_cases h2 : spotsE sp ≠ 0
  · simp only [if_pos h2]
  · simp only [if_neg h2, hl]
    by_cases h3 : (spGoS (cutFull R W L id).1 sp).length > 128
    · simp only [if_pos h3]
    · simp only [if_neg h3]
      rw [topS_map _ _ 0 hm]
theorem same_gp {c c' : Ch} (hs : Same c c') (hc : Chk c.2.2.2) (secs : List Sec) : gpS secs c' = gpS secs c := by
  have e : nf (c'.2.2.2.map spn) = nf (c.2.2.2.map spn) := by
    have hi := spn_in hs.chk.goods
    refine nf_uniq (spn_in hc.goods) (nf_nr hi) fun z => (nf_has hi z).trans ?_
    rw [← hasT_iff, ← hasT_iff]
    show imT _ z = true ↔ imT _ z = true
    rw [imT_img hs.chk.goods, imT_img hc.goods, hs.len]
    constructor
    · rintro ⟨x, x0, x1, e⟩
      exact ⟨lenS c.2.2.2 - 1 - x, by omega, by omega, by rw [← e, hs.img x x0 x1]⟩
    · rintro ⟨x, x0, x1, e⟩
      exact ⟨lenS c.2.2.2 - 1 - x, by omega, by omega, by rw [hs.img _ (by omega) (by omega), show lenS c.2.2.2 - 1 - (lenS c.2.2.2 - 1 - x) = x by omega, e]⟩
  unfold gpS
  rw [e]
theorem gather_zero {R : List Ro} {W L : Int} {secs : List Sec} {sp : List Spt} {gr : List Grd} {core id : Int} (h : (gatherS R W L secs sp gr core id).2 = 0) : (cutFull R W L id).2 = 0 ∧ id ≠ 0 ∧ secE secs = 0 ∧ endS secs = L ∧ gatherS R W L secs sp gr core id = finS R W L sp gr core id (cutFull R W L id).1 (gpS secs (cutFull R W L id).1).1 (gpS secs (cutFull R W L id).1).2 ∧ (gatherS R W L secs sp gr core id).1.2.2.1 = (cutFull R W L id).1.2.1 := by
  unfold gatherS at h ⊢
  by_cases h1 : (cutFull R W L id).2 = 0
  · rw [if_neg (fun q : (cutFull R W L id).2 ≠ 0 => q h1)] at h ⊢
    by_cases h2 : id = 0
    · rw [if_pos h2] at h; exact absurd h (show (7 : Int) ≠ 0 by decide)
    · rw [if_neg h2] at h ⊢
      by_cases h3 : secE secs = 0
      · rw [if_neg (fun q : secE secs ≠ 0 => q h3)] at h ⊢
        by_cases h4 : endS secs = L
        · rw [if_neg (fun q : endS secs ≠ L => q h4)] at h ⊢
          refine ⟨h1, h2, h3, h4, rfl, ?_⟩
          unfold finS at h ⊢
          by_cases h5 : (gpS secs (cutFull R W L id).1).1 < 0 ∨ (gpS secs (cutFull R W L id).1).1 ≥ gr.length
          · rw [if_pos h5] at h; exact absurd h (show (22 : Int) ≠ 0 by decide)
          · rw [if_neg h5] at h ⊢
            by_cases h6 : (diaS core (lenS (cutFull R W L id).1.2.2.2) (calS gr (gpS secs (cutFull R W L id).1).1)).2 ≠ 0
            · rw [if_pos h6] at h; exact absurd h h6
            · rw [if_neg h6] at h ⊢
              by_cases h7 : (worstS R W L sp id).2 ≠ 0
              · rw [if_pos h7] at h; exact absurd h h7
              · rw [if_neg h7]
        · rw [if_pos h4] at h; exact absurd h (show (21 : Int) ≠ 0 by decide)
      · rw [if_pos h3] at h; exact absurd h h3
  · rw [if_pos h1] at h; exact absurd h h1
theorem turned_gather {R : List Ro} {W L : Int} {secs : List Sec} {sp : List Spt} {gr : List Grd} {core id fresh : Int} (h : (gatherS R W L secs sp gr core id).2 = 0) (hf : ∀ r ∈ R, r.1 + 1 ≤ fresh) (f1 : 1 ≤ fresh) (f2 : fresh ≤ 1000000) (hp : ∀ r ∈ R, r.2.1 ≠ id) (hl : R.length < 512) (hn : 1 ≤ (sizeS R W L id).2) : gatherS (R ++ [turnR fresh id (sizeS R W L id).1 (sizeS R W L id).2]) W L secs sp gr core fresh = gatherS R W L secs sp gr core id := by
  obtain ⟨h1, h2, h3, h4, h5, _⟩ := gather_zero h
  obtain ⟨c', e, hs⟩ := turned_cut h1 hf f1 f2 hp hl hn
  have hc := (cut_in h1).2.chk
  rw [h5]
  unfold gatherS
  have e2 : (cutFull (R ++ [turnR fresh id (sizeS R W L id).1 (sizeS R W L id).2]) W L fresh).2 = 0 := by rw [e]
  have e1 : (cutFull (R ++ [turnR fresh id (sizeS R W L id).1 (sizeS R W L id).2]) W L fresh).1 = c' := by rw [e]
  have hw := same_worst (sp := sp) h1 e2 (by rw [e1]; exact hs)
  rw [if_neg (fun q : (cutFull (R ++ [turnR fresh id (sizeS R W L id).1 (sizeS R W L id).2]) W L fresh).2 ≠ 0 => q e2), if_neg (by omega), if_neg (fun q : secE secs ≠ 0 => q h3), if_neg (fun q : endS secs ≠ L => q h4), e1, same_gp hs hc]
  unfold finS
  rw [hw, hs.len, hs.width, hs.num]
end Go.AM
namespace Go.AM
open Go Go.Proofs
noncomputable section
abbrev R_u36 : Type := Bool
def res_u36 (r : R_u36) : AV := .r (.v (.bool r))
def bo_u36 (x_ : T7.T) (id_ : Int) (r : R_u36) : List (Nat × Blk) := []
def args_u36 (x_ : T7.T) (id_ : Int) : List AV := [.agg (rvs (enc T7 x_)), .r (.v (.int .i64 id_))]
def bin_u36 (x_ : T7.T) (id_ : Int) : List Blk := []
abbrev C_u36 (x_ : T7.T) (id_ : Int) (r : R_u36) : Prop := CC Tryz.prog 4 (args_u36 x_ id_) (bin_u36 x_ id_) (res_u36 r) (bo_u36 x_ id_ r)
def st_u36_5 (y0 : Int) (y1 : Int) (y2 : Int) (y3 : Int) (y4 : T7.T) (y5 : T8.T) : St := ⟨mkS 113 [(1, .r (.v (.int .i64 y0))), (2, .ptr 1000000 0 0), (5, .ptr 1000001 0 0), (6, .r (.v (.int .i64 y1))), (8, .r (.v (.int .i64 y2))), (9, .r (.v (.int .i64 y3)))], [(1000000, 0, .var 27 (rvs (enc T7 y4))), (1000001, 0, .var 31 (rvs (enc T8 y5)))]⟩
def st_u36_9 (y0 : Int) (y1 : Int) (y2 : Int) (y3 : List (T2).T) (y4 : Int) (y5 : Int) (y6 : T7.T) (y7 : T8.T) : St := ⟨mkS 113 [(1, .r (.v (.int .i64 y0))), (2, .ptr 1000000 0 0), (5, .ptr 1000001 0 0), (8, .r (.v (.int .i64 y1))), (10, .r (.v (.int .i64 y2))), (53, .r (.ro T2 y3)), (54, .r (.v (.int .i64 y4))), (55, .r (.v (.int .i64 y5)))], [(1000000, 0, .var 27 (rvs (enc T7 y6))), (1000001, 0, .var 31 (rvs (enc T8 y7)))]⟩
def st_u36_15 (y0 : Int) (y1 : Int) (y2 : Int) (y3 : T7.T) (y4 : T8.T) : St := ⟨mkS 113 [(1, .r (.v (.int .i64 y0))), (2, .ptr 1000000 0 0), (5, .ptr 1000001 0 0), (8, .r (.v (.int .i64 y1))), (10, .r (.v (.int .i64 y2)))], [(1000000, 0, .var 27 (rvs (enc T7 y3))), (1000001, 0, .var 31 (rvs (enc T8 y4)))]⟩
def st_u36_18 (y0 : Int) (y1 : T7.T) (y2 : T8.T) (y3 : T2.T) : St := ⟨mkS 113 [(2, .ptr 1000000 0 0), (5, .ptr 1000001 0 0), (10, .r (.v (.int .i64 y0))), (13, .ptr 1000002 0 0)], [(1000000, 0, .var 27 (rvs (enc T7 y1))), (1000001, 0, .var 31 (rvs (enc T8 y2))), (1000002, 0, .var 52 (rvs (enc T2 y3)))]⟩
def st_u36_19 (y0 : Int) (y1 : T7.T) (y2 : T8.T) : St := ⟨mkS 113 [(2, .ptr 1000000 0 0), (5, .ptr 1000001 0 0), (10, .r (.v (.int .i64 y0)))], [(1000000, 0, .var 27 (rvs (enc T7 y1))), (1000001, 0, .var 31 (rvs (enc T8 y2)))]⟩
mutual
def f_u36_5 (k : Nat) : Nat → Int → Int → Int → Int → T7.T → T8.T → Option R_u36
  | 0, _, _, _, _, _, _ => none
  | j + 1, y0, y1, y2, y3, y4, y5 =>
  bif (y1 != (0 : Int) || y3 != (0 : Int)) then
  if ((f_u37 k ).isSome = true) then
  some (v_u37 k)
  else none
  else
  f_u36_9 k j y0 y2 1 y4.1 ((↑ (List.length y4.1) : Int)) 0 y4 y5
def f_u36_9 (k : Nat) : Nat → Int → Int → Int → List (T2).T → Int → Int → T7.T → T8.T → Option R_u36
  | 0, _, _, _, _, _, _, _, _ => none
  | j + 1, y0, y1, y2, y3, y4, y5, y6, y7 =>
  bif (decide (y5 < y4)) then
  if (0 ≤ y5) ∧ (y5 < (↑y3.length : Int)) then
  bif ((y3.getD y5.toNat T2.dflt).2.1 == y0) then
  if ((f_u37 k ).isSome = true) then
  some (v_u37 k)
  else none
  else
  f_u36_9 k j y0 y1 ((if IntKind.i64.wrap ((y3.getD y5.toNat T2.dflt).1 + 1) > y2 then IntKind.i64.wrap ((y3.getD y5.toNat T2.dflt).1 + 1) else y2)) y3 y4 ((IntKind.i64.wrap (y5 + 1))) y6 y7
  else none
  else
  f_u36_15 k j y0 y1 y2 y6 y7
def f_u36_15 (k : Nat) : Nat → Int → Int → Int → T7.T → T8.T → Option R_u36
  | 0, _, _, _, _, _ => none
  | j + 1, y0, y1, y2, y3, y4 =>
  bif (decide (y2 > (1000000 : Int)) || decide (y1 < (1 : Int))) then
  if ((f_u37 k ).isSome = true) then
  some (v_u37 k)
  else none
  else
  f_u36_18 k j y2 y3 y4 ((y2, (y0, (0, (y4.2.2.1, (false, [(IntKind.i64.wrap (y1 - 1), y1, true)]))))))
def f_u36_18 (k : Nat) : Nat → Int → T7.T → T8.T → T2.T → Option R_u36
  | 0, _, _, _, _ => none
  | j + 1, y0, y1, y2, y3 =>
  if (((0 : Nat) + List.length y1.1) * (64 : Nat) ≤ (140737488355328 : Nat)) ∧ ((([] ++ y1.1).length + [y3].length) * (64 : Nat) ≤ (140737488355328 : Nat)) then
  f_u36_19 k j y0 (([] ++ y1.1 ++ [y3], (y1.2.1, (y1.2.2.1, (y1.2.2.2.1, (y1.2.2.2.2.1, (y1.2.2.2.2.2.1, y1.2.2.2.2.2.2))))))) y2
  else none
def f_u36_19 (k : Nat) : Nat → Int → T7.T → T8.T → Option R_u36
  | 0, _, _, _ => none
  | j + 1, y0, y1, y2 =>
  if ((f_u40 k y1).isSome = true) ∧ ((f_u88 k (v_u40 k y1) y0).isSome = true) then
  bif ((v_u88 k (v_u40 k y1) y0).2 == (0 : Int) && eqT T8 y2 (v_u88 k (v_u40 k y1) y0).1) then
  if (((v_u88 k (v_u40 k y1) y0).2 == (0 : Int) && eqT T8 y2 (v_u88 k (v_u40 k y1) y0).1) = true) ∧ ((f_u37 k ).isSome = true) then
  some (true && v_u37 k)
  else none
  else
  if (((v_u88 k (v_u40 k y1) y0).2 == (0 : Int) && eqT T8 y2 (v_u88 k (v_u40 k y1) y0).1) = false) then
  some false
  else none
  else none
end
def f_u36 (k : Nat) (x_ : T7.T) (id_ : Int) : Option R_u36 :=
  if ((f_u38 k x_).isSome = true) then
  bif (v_u38 k x_ || decide ((↑ (List.length x_.1) : Int) ≥ (512 : Int))) then
  if ((f_u37 k ).isSome = true) then
  some (v_u37 k)
  else none
  else
  if ((f_u40 k x_).isSome = true) ∧ ((f_u88 k (v_u40 k x_) id_).isSome = true) then
  if ((f_u6 k x_.1 (x_.2.1, x_.2.2.1) id_).isSome = true) then
  f_u36_5 k k id_ ((v_u88 k (v_u40 k x_) id_).2) ((v_u6 k x_.1 (x_.2.1, x_.2.2.1) id_).2.1) ((v_u6 k x_.1 (x_.2.1, x_.2.2.1) id_).2.2) x_ ((v_u88 k (v_u40 k x_) id_).1)
  else none
  else none
  else none
def K_u36 (k : Nat) : Calld := mkK [ke_u38 k, ke_u37 k, ke_u88 k, ke_u40 k, ke_u6 k]
def cs_u36 : List (Nat × List Cmd) := [(5, [.autoB [1, 2, 5, 6, 8, 9] false []]), (9, [.autoB [1, 2, 5, 8, 10, 53, 54, 55] false []]), (15, [.autoB [1, 2, 5, 8, 10] false []]), (18, [.frz 13 true T2, .autoB [2, 5, 10, 13] false []]), (19, [.frz 2 true T7, .autoB [2, 5, 10] false []])]
abbrev E_u36 (x_ : T7.T) (id_ : Int) (todo : List Item) (st : St) (o : Option R_u36) : Prop := ∀ r, o = some r → Ev Tryz.prog Tryz.f4 0 todo st (res_u36 r) (bo_u36 x_ id_ r)
theorem ev_u36 (k : Nat) (x_ : T7.T) (id_ : Int) : ∀ j, (∀ (y0 : Int) (y1 : Int) (y2 : Int) (y3 : Int) (y4 : T7.T) (y5 : T8.T), E_u36 x_ id_ (placeAt Tryz.f4 5) (st_u36_5 y0 y1 y2 y3 y4 y5) (f_u36_5 k j y0 y1 y2 y3 y4 y5)) ∧ (∀ (y0 : Int) (y1 : Int) (y2 : Int) (y3 : List (T2).T) (y4 : Int) (y5 : Int) (y6 : T7.T) (y7 : T8.T), E_u36 x_ id_ (placeAt Tryz.f4 9) (st_u36_9 y0 y1 y2 y3 y4 y5 y6 y7) (f_u36_9 k j y0 y1 y2 y3 y4 y5 y6 y7)) ∧ (∀ (y0 : Int) (y1 : Int) (y2 : Int) (y3 : T7.T) (y4 : T8.T), E_u36 x_ id_ (placeAt Tryz.f4 15) (st_u36_15 y0 y1 y2 y3 y4) (f_u36_15 k j y0 y1 y2 y3 y4)) ∧ (∀ (y0 : Int) (y1 : T7.T) (y2 : T8.T) (y3 : T2.T), E_u36 x_ id_ (placeAt Tryz.f4 18) (st_u36_18 y0 y1 y2 y3) (f_u36_18 k j y0 y1 y2 y3)) ∧ (∀ (y0 : Int) (y1 : T7.T) (y2 : T8.T), E_u36 x_ id_ (placeAt Tryz.f4 19) (st_u36_19 y0 y1 y2) (f_u36_19 k j y0 y1 y2))
  | 0 => ⟨fun _ _ _ _ _ _ _ h => (nomatch h), fun _ _ _ _ _ _ _ _ _ h => (nomatch h), fun _ _ _ _ _ _ h => (nomatch h), fun _ _ _ _ _ h => (nomatch h), fun _ _ _ _ h => (nomatch h)⟩
  | j + 1 => by
    have ih := @ev_u36 k x_ id_ j
    refine ⟨?_, ?_, ?_, ?_, ?_⟩
    · intro y0 y1 y2 y3 y4 y5 r h
      rw [f_u36_5] at h
      exact go (K_u36 k) [5, 15, 18, 19] cs_u36 [.autoB [4] true []] (gT h (fun c h => gN1 h (fun q => cc_u37 q) fun h => gL h) fun c h => gC h 9 (ih.2.1 _ _ _ _ _ _ _ _ _)) (by kernel_rfl)
    · intro y0 y1 y2 y3 y4 y5 y6 y7 r h
      rw [f_u36_9] at h
      exact go (K_u36 k) [5, 15, 18, 19] cs_u36 [.autoB [4] true []] (gT h (fun c h => gN2 h fun h => gT h (fun c h => gN1 h (fun q => cc_u37 q) fun h => gL h) fun c h => gC h 9 (ih.2.1 _ _ _ _ _ _ _ _ _)) fun c h => gC h 15 (ih.2.2.1 _ _ _ _ _ _)) (by kernel_rfl)
    · intro y0 y1 y2 y3 y4 r h
      rw [f_u36_15] at h
      exact go (K_u36 k) [5, 15, 18, 19] cs_u36 [.autoB [4] true []] (gT h (fun c h => gN1 h (fun q => cc_u37 q) fun h => gL h) fun c h => gC h 18 (ih.2.2.2.1 _ _ _ _ _)) (by kernel_rfl)
    · intro y0 y1 y2 y3 r h
      rw [f_u36_18] at h
      exact go (K_u36 k) [5, 15, 18, 19] cs_u36 [.autoB [4] true []] (gN2 h fun h => gC h 19 (ih.2.2.2.2 _ _ _ _)) (by kernel_rfl)
    · intro y0 y1 y2 r h
      rw [f_u36_19] at h
      exact go (K_u36 k) [5, 15, 18, 19] cs_u36 [.autoB [4] true []] (gN h (fun q => conjC (cc_u40 q.1) (conjC (cc_u88 q.2) conj0)) fun h => gT h (fun c h => gN h (fun q => conjC q.1 (conjC (cc_u37 q.2) conj0)) fun h => gL h) fun c h => gN1 h id fun h => gL h) (by kernel_rfl)
theorem of_u36 (k : Nat) (x_ : T7.T) (id_ : Int) (r : R_u36) (h : f_u36 k x_ id_ = some r) : C_u36 x_ id_ r := by
  refine CC.of (fn := Tryz.f4) (by kernel_rfl) (by kernel_rfl) (by kernel_rfl) (by kernel_rfl) ?_
  unfold f_u36 at h
  exact go (K_u36 k) [5, 15, 18, 19] cs_u36 [.autoB [4] true []] (gN1 h (fun q => cc_u38 q) fun h => gT h (fun c h => gN1 h (fun q => cc_u37 q) fun h => gL h) fun c h => gN h (fun q => conjC (cc_u40 q.1) (conjC (cc_u88 q.2) conj0)) fun h => gN1 h (fun q => cc_u6 q) fun h => gC h 5 ((ev_u36 k x_ id_ k).1 _ _ _ _ _ _ _)) (by kernel_rfl)
end
theorem Okp.id_le {W L : Int} {l : List Ro} (h : Okp W L l) : ∀ r ∈ l, 1 ≤ r.1 ∧ r.1 ≤ 1000000 := by
  induction h with
  | nil => intro r hr; simp at hr
  | snoc p r h f n c ih =>
    intro x hx
    rcases List.mem_append.1 hx with hx | hx
    · exact ih x hx
    · rw [List.mem_singleton] at hx; rw [hx]; exact ⟨f.id0, f.id1⟩
theorem Turned_9 (k : Nat) (ha : f_u37 k = some true) (id n : Int) (R : List Ro) (hl : R.length ≤ 512) (hb : ∀ r ∈ R, 1 ≤ r.1 ∧ r.1 ≤ 1000000) (x : Cas) (F : Fac) : ∀ (d i j : Nat) (fr : Int), i + d = R.length → d + 100 < j →
    f_u36_9 k j id n fr R (R.length : Int) (i : Int) x F = some true ∨ ∃ (j' : Nat) (g : Int), 90 < j' ∧ fr ≤ g ∧ (∀ r ∈ R.drop i, r.2.1 ≠ id ∧ r.1 + 1 ≤ g) ∧ f_u36_9 k j id n fr R (R.length : Int) (i : Int) x F = f_u36_15 k j' id n g x F := by
  intro d
  induction d with
  | zero =>
    intro i j fr hi hj
    obtain ⟨j, rfl⟩ : ∃ q, j = q + 1 := ⟨j - 1, by omega⟩
    right
    refine ⟨j, fr, by omega, Int.le_refl _, fun r hr => ?_, ?_⟩
    · rw [List.drop_of_length_le (by omega)] at hr; exact absurd hr List.not_mem_nil
    · rw [f_u36_9, decide_eq_false (by omega : ¬ (i : Int) < (R.length : Int)), cond_false]
  | succ d ih =>
    intro i j fr hi hj
    obtain ⟨j, rfl⟩ : ∃ q, j = q + 1 := ⟨j - 1, by omega⟩
    have hx := hb (R.getD i T2.dflt) (getD_mem' _ _ _ (by omega))
    rw [f_u36_9, decide_eq_true (by omega : (i : Int) < (R.length : Int)), cond_true, if_pos ⟨by omega, by omega⟩, Int.toNat_natCast, wrapS i (by omega), drop_cons' R i T2.dflt (by omega), wrap_id (i := (R.getD i T2.dflt).1 + 1) (by omega) (by omega)]
    by_cases hp : (R.getD i T2.dflt).2.1 = id
    · left
      rw [show ((R.getD i T2.dflt).2.1 == id) = true from beq_iff_eq.2 hp, cond_true, ha]
      unfold v_u37
      rw [ha]; rfl
    · rw [show ((R.getD i T2.dflt).2.1 == id) = false from beq_eq_false_iff_ne.2 hp, cond_false]
      rcases ih (i + 1) j (if (R.getD i T2.dflt).1 + 1 > fr then (R.getD i T2.dflt).1 + 1 else fr) (by omega) (by omega) with h | ⟨j', g, g1, g2, g3, g4⟩
      · exact .inl h
      · right
        refine ⟨j', g, g1, ?_, fun r hr => ?_, g4⟩
        · refine Int.le_trans ?_ g2
          split <;> omega
        · rcases List.mem_cons.1 hr with e | hr
          · rw [e]
            refine ⟨hp, Int.le_trans ?_ g2⟩
            split <;> omega
          · exact g3 r hr
theorem q_ReleaseTurned (x : Cas) (id : Int) : f_u36 400000 x id = some true := by
  have hk : 301000 ≤ 400000 := by decide
  have hg := great_s 400000 (by decide) x
  have ho : ∀ x : Cas, f_u40 400000 x = some (x.1, (x.2.1, x.2.2.1), x.2.2.2.1, x.2.2.2.2.1, x.2.2.2.2.2.1, x.2.2.2.2.2.2) := fun _ => rfl
  have hov : ∀ x : Cas, v_u40 400000 x = (x.1, (x.2.1, x.2.2.1), x.2.2.2.1, x.2.2.2.2.1, x.2.2.2.2.2.1, x.2.2.2.2.2.2) := fun _ => rfl
  unfold f_u36
  rw [hg, awake55_s, awake55_v, if_pos rfl]
  cases hc : (v_u38 400000 x || decide ((List.length x.1 : Int) ≥ 512))
  · have hlen : x.1.length < 512 := by
      have := (Bool.or_eq_false_iff.1 hc).2
      have := of_decide_eq_false this
      omega
    rw [cond_false, ho, hov, release_Gather_s 400000 hk, release_Gather_v 400000 hk, fam_Size_s 400000 (by decide), fam_Size_v 400000 (by decide), if_pos ⟨rfl, rfl⟩, Option.isSome_some, if_pos rfl]
    dsimp only
    have key : ∀ j : Nat, 1000 < j → f_u36_5 400000 j id (gatherS x.1 x.2.1 x.2.2.1 x.2.2.2.1 x.2.2.2.2.1 x.2.2.2.2.2.1 x.2.2.2.2.2.2 id).2 (sizeE x.1 x.2.1 x.2.2.1 id).2.1 (sizeE x.1 x.2.1 x.2.2.1 id).2.2 x (gatherS x.1 x.2.1 x.2.2.1 x.2.2.2.1 x.2.2.2.2.1 x.2.2.2.2.2.1 x.2.2.2.2.2.2 id).1 = some true := by
      intro j hj
      obtain ⟨j, rfl⟩ : ∃ q, j = q + 1 := ⟨j - 1, by omega⟩
      rw [f_u36_5, awake55_s, awake55_v]
      by_cases h1 : (gatherS x.1 x.2.1 x.2.2.1 x.2.2.2.1 x.2.2.2.2.1 x.2.2.2.2.2.1 x.2.2.2.2.2.2 id).2 = 0
      · obtain ⟨c1, c2, c3, c4, c5, c6⟩ := gather_zero h1
        obtain ⟨reg, ci⟩ := cut_in c1
        have hW := reg.w
        have hsz := reg.small 512 id (reg.anc (cut_err c1).kn)
        have hez : sizeE x.1 x.2.1 x.2.2.1 id = ((sizeS x.1 x.2.1 x.2.2.1 id).1, (sizeS x.1 x.2.1 x.2.2.1 id).2, 0) := by
          have hz := errS_zero.2 (cut_err c1)
          unfold sizeE
          rw [if_neg (fun h : errS x.1 x.2.1 x.2.2.1 id ≠ 0 => h hz)]
        rw [h1, hez]
        dsimp only
        rw [bne_self_eq_false, Bool.or_self, cond_false]
        rcases Turned_9 400000 awake55_s id (sizeS x.1 x.2.1 x.2.2.1 id).2 x.1 (by omega) reg.ok.id_le x (gatherS x.1 x.2.1 x.2.2.1 x.2.2.2.1 x.2.2.2.2.1 x.2.2.2.2.2.1 x.2.2.2.2.2.2 id).1 x.1.length 0 j 1 (Nat.zero_add _) (by omega) with h | ⟨j', g, g1, g2, g3, g4⟩
        · exact h
        · refine g4.trans ?_
          rw [List.drop_zero] at g3
          obtain ⟨j', rfl⟩ : ∃ q, j' = q + 3 := ⟨j' - 3, by omega⟩
          rw [f_u36_15, awake55_s, awake55_v]
          by_cases q1 : g > 1000000
          · rw [decide_eq_true q1, Bool.true_or]; rfl
          · by_cases q2 : (sizeS x.1 x.2.1 x.2.2.1 id).2 < 1
            · rw [decide_eq_true q2, Bool.or_true]; rfl
            · rw [decide_eq_false q1, decide_eq_false q2, Bool.or_self, cond_false, f_u36_18, if_pos ⟨by omega, by rw [List.nil_append, List.length_singleton]; omega⟩, f_u36_19, wrap_id (i := (sizeS x.1 x.2.1 x.2.2.1 id).2 - 1) (by omega) (by omega), ho, hov, release_Gather_s 400000 hk, release_Gather_v 400000 hk, awake55_s, awake55_v]
              dsimp only
              have ht := turned_gather h1 (fun r hr => (g3 r hr).2) g2 (by omega) (fun r hr => (g3 r hr).1) hlen (by omega : 1 ≤ (sizeS x.1 x.2.1 x.2.2.1 id).2)
              have hr : (g, id, (0 : Int), (gatherS x.1 x.2.1 x.2.2.1 x.2.2.2.1 x.2.2.2.2.1 x.2.2.2.2.2.1 x.2.2.2.2.2.2 id).1.2.2.1, false, [((sizeS x.1 x.2.1 x.2.2.1 id).2 - 1, (sizeS x.1 x.2.1 x.2.2.1 id).2, true)]) = turnR g id (sizeS x.1 x.2.1 x.2.2.1 id).1 (sizeS x.1 x.2.1 x.2.2.1 id).2 := by
                rw [c6, ci.width]; rfl
              rw [List.nil_append, hr, ht, h1, beq_self_eq_true, eqT_fac]
              rfl
      · rw [bne_iff_ne.2 h1, Bool.true_or]; rfl
    exact key 400000 (by decide)
  · rfl
end Go.AM
