/- Contracts of the functions that the law reaches, and the plain law. -/
import Derived.Test.YtlakpahbdecdpaaGreatDoorFunb
set_option linter.unusedVariables false
set_option linter.unusedSimpArgs false
set_option linter.unusedSectionVars false
namespace Go.AM
open Go Go.Proofs

/-! ### Rolls: the program -/
def bs (b : T17.T) (f : List Fnd) : R_u14 := (b, f)
theorem rolls_11 (k : Nat) (hk : 2100 ≤ k) (q b : T17.T) (q2 fnd : List Fnd) (hf : fnd.length ≤ 100000) (L l : List Ro) (n : Int) (i0 i : Nat) (hl : l.length ≤ 40) (hs : Smalls l) (hi : i < b.2.2.2.2.2.2.2.2.2.2.2.2.1.length) (hu : b.2.2.2.2.2.2.2.2.2.2.2.2.1.length ≤ 40) (r : Ro) (hr : Small r.2.2) (hn : n = lenS r.2.2.2.2.2) :
    ∀ (d c j : Nat) (y : Bool), c + d = l.length → (y = true → inR (b.2.2.2.2.2.2.2.2.2.2.2.2.1.getD i I.dflt) n) →
      f_u14_11 k q q2 (d + 1 + j) (i : Int) n y L (i0 : Int) (i : Int) l (l.length : Int) (c : Int) b fnd r = f_u14_6 k q q2 j L (i0 : Int) ((i + 1 : Nat) : Int) b (fnd ++ (bif (y && (l.drop c).all (kidOk r (b.2.2.2.2.2.2.2.2.2.2.2.2.1.getD i I.dflt))) then [] else [(3, r.1, 1)])) := by
  have hl2 := len_in hr.chk
  intro d
  induction d with
  | zero =>
    intro c j y hc hy
    rw [show 0 + 1 + j = j + 1 by omega, f_u14_11, decide_eq_false (by omega : ¬ (c : Int) < (l.length : Int)), cond_false, List.drop_of_length_le (by omega), List.all_nil, Bool.and_true, wrapS i (by omega), find_s k b fnd _ _ _ (by omega), find_v k b fnd _ _ _ (by omega), Option.isSome_some, if_pos rfl]
    cases y
    · rfl
    · rw [Bool.not_true, cond_false, cond_true, List.append_nil]
  | succ d ih =>
    intro c j y hc hy
    have hm := hs _ (gdm l c T5.dflt (by omega))
    have hlo := lowest_s k (by omega) _ hm.chk
    have hrw : l.drop c = l.getD c T5.dflt :: l.drop (c + 1) := drop_cons' l c T5.dflt (by omega)
    rw [show d + 1 + 1 + j = (d + 1 + j) + 1 by omega, f_u14_11, decide_eq_true (by omega : (c : Int) < (l.length : Int)), cond_true, if_pos ⟨by omega, by omega⟩, Int.toNat_natCast, Int.toNat_natCast, wrapS c (by omega), hrw, List.all_cons]
    cases y with
    | false =>
      rw [cond_false, if_pos rfl, ih (c + 1) j false (by omega) (fun h => by cases h), Bool.false_and, Bool.false_and]
    | true =>
      have hu2 := hy rfl
      have hu3 := hu2
      unfold inR at hu3
      rw [cond_true, Bool.true_and]
      unfold kidOk
      cases hq : ((l.getD c T5.dflt).2.1 != r.1)
      · have hw : IntKind.i64.wrap (n - b.2.2.2.2.2.2.2.2.2.2.2.2.1.getD i I.dflt) = n - b.2.2.2.2.2.2.2.2.2.2.2.2.1.getD i I.dflt := wrap_id (by omega) (by omega)
        rw [cond_false, hlo.1, lowest_v k (by omega) _ hm.chk, if_pos ⟨rfl, rfl, rfl, by omega, by omega⟩, hw, Bool.true_and, Bool.false_or, ih (c + 1) j _ (by omega) (fun _ => hu2), hn]
        rfl
      · rw [cond_true, if_pos ⟨rfl, rfl⟩, Bool.true_or, Bool.true_and, ih (c + 1) j _ (by omega) (fun _ => hu2)]
        rfl
theorem one1_len (l : List Ro) (r : Ro) (u : Int) : (one1 l r u).length ≤ 1 := by
  unfold one1; cases rightS l r u <;> simp
theorem rolls_6 (k : Nat) (hk : 2100 ≤ k) (q b : T17.T) (q2 : List Fnd) (hl : b.2.2.2.2.2.2.2.2.2.2.2.1.length ≤ 40) (hs : Smalls (b.2.2.2.2.2.2.2.2.2.2.2.1)) (hu : b.2.2.2.2.2.2.2.2.2.2.2.2.1.length = b.2.2.2.2.2.2.2.2.2.2.2.1.length) :
    ∀ (d i j : Nat) (fnd : List Fnd), i + d = b.2.2.2.2.2.2.2.2.2.2.2.1.length → fnd.length + d ≤ 10000 →
      f_u14_6 k q q2 (d * (b.2.2.2.2.2.2.2.2.2.2.2.1.length + 2) + 1 + j) (b.2.2.2.2.2.2.2.2.2.2.2.1) (b.2.2.2.2.2.2.2.2.2.2.2.1.length : Int) (i : Int) b fnd = f_u14_20 k q q2 j (b.2.2.2.2.2.2.2.2.2.2.2.1) (b.2.2.2.2.2.2.2.2.2.2.2.1.length : Int) 0 b (fnd ++ partA (b.2.2.2.2.2.2.2.2.2.2.2.1) (b.2.2.2.2.2.2.2.2.2.2.2.1.drop i) (b.2.2.2.2.2.2.2.2.2.2.2.2.1.drop i)) [] := by
  intro d
  induction d with
  | zero =>
    intro i j fnd hi hf
    rw [show 0 * (b.2.2.2.2.2.2.2.2.2.2.2.1.length + 2) + 1 + j = j + 1 by omega, f_u14_6, decide_eq_false (by omega : ¬ (i : Int) < (b.2.2.2.2.2.2.2.2.2.2.2.1.length : Int)), cond_false, List.drop_of_length_le (by omega : b.2.2.2.2.2.2.2.2.2.2.2.1.length ≤ i), partA, List.append_nil]
    intro r rs u us h; cases h
  | succ d ih =>
    intro i j fnd hi hf
    have hm := hs _ (gdm (b.2.2.2.2.2.2.2.2.2.2.2.1) i T5.dflt (by omega))
    have hln := len_in hm.chk
    have hrw : b.2.2.2.2.2.2.2.2.2.2.2.1.drop i = b.2.2.2.2.2.2.2.2.2.2.2.1.getD i T5.dflt :: b.2.2.2.2.2.2.2.2.2.2.2.1.drop (i + 1) := drop_cons' (b.2.2.2.2.2.2.2.2.2.2.2.1) i T5.dflt (by omega)
    have huw : b.2.2.2.2.2.2.2.2.2.2.2.2.1.drop i = b.2.2.2.2.2.2.2.2.2.2.2.2.1.getD i I.dflt :: b.2.2.2.2.2.2.2.2.2.2.2.2.1.drop (i + 1) := drop_cons' (b.2.2.2.2.2.2.2.2.2.2.2.2.1) i I.dflt (by omega)
    have hfu : (d + 1) * (b.2.2.2.2.2.2.2.2.2.2.2.1.length + 2) + 1 + j = (b.2.2.2.2.2.2.2.2.2.2.2.1.length + 1 + (d * (b.2.2.2.2.2.2.2.2.2.2.2.1.length + 2) + 1 + j)) + 1 := by rw [Nat.succ_mul]; omega
    have h3 : (0 : Int) ≤ (i : Int) := by omega
    have h4 : (i : Int) < (b.2.2.2.2.2.2.2.2.2.2.2.2.1.length : Int) := by omega
    rw [hfu, f_u14_6, decide_eq_true (by omega : (i : Int) < (b.2.2.2.2.2.2.2.2.2.2.2.1.length : Int)), cond_true, if_pos ⟨by omega, by omega⟩, Int.toNat_natCast, length_s k hk _ hm.chk, length_v k hk _ hm.chk, Option.isSome_some, if_pos rfl, if_pos ⟨h3, h4, fun _ => h3, fun _ => h4⟩]
    have h11 := rolls_11 k hk q b q2 fnd (by omega) (b.2.2.2.2.2.2.2.2.2.2.2.1) (b.2.2.2.2.2.2.2.2.2.2.2.1) (lenS (b.2.2.2.2.2.2.2.2.2.2.2.1.getD i T5.dflt).2.2.2.2.2) (b.2.2.2.2.2.2.2.2.2.2.2.1.length) i hl hs (by omega) (by omega) (b.2.2.2.2.2.2.2.2.2.2.2.1.getD i T5.dflt) hm rfl (b.2.2.2.2.2.2.2.2.2.2.2.1.length) 0 (d * (b.2.2.2.2.2.2.2.2.2.2.2.1.length + 2) + 1 + j) (decide (b.2.2.2.2.2.2.2.2.2.2.2.2.1.getD i I.dflt ≥ 0) && decide (b.2.2.2.2.2.2.2.2.2.2.2.2.1.getD i I.dflt ≤ lenS (b.2.2.2.2.2.2.2.2.2.2.2.1.getD i T5.dflt).2.2.2.2.2)) (by omega) (fun h => by
      have := Bool.and_eq_true_iff.1 h
      exact ⟨of_decide_eq_true this.1, of_decide_eq_true this.2⟩)
    rw [List.drop_zero] at h11
    rw [show ((0 : Nat) : Int) = 0 from rfl] at h11
    rw [h11]
    have ho := one1_len (b.2.2.2.2.2.2.2.2.2.2.2.1) (b.2.2.2.2.2.2.2.2.2.2.2.1.getD i T5.dflt) (b.2.2.2.2.2.2.2.2.2.2.2.2.1.getD i I.dflt)
    show f_u14_6 k q q2 (d * (b.2.2.2.2.2.2.2.2.2.2.2.1.length + 2) + 1 + j) (b.2.2.2.2.2.2.2.2.2.2.2.1) _ _ b (fnd ++ one1 (b.2.2.2.2.2.2.2.2.2.2.2.1) (b.2.2.2.2.2.2.2.2.2.2.2.1.getD i T5.dflt) (b.2.2.2.2.2.2.2.2.2.2.2.2.1.getD i I.dflt)) = _
    rw [ih (i + 1) j _ (by omega) (by rw [List.length_append]; omega), hrw, huw, partA, List.append_assoc]
theorem mset_get (M : List (Int × Bool)) (a x : Int) : (mget I (β := Bool) x (mset I (β := Bool) a true M)).getD false = (a == x || (mget I (β := Bool) x M).getD false) := by
  rw [mget_mset_int]
  by_cases h : x = a
  · rw [if_pos h, h, beq_self_eq_true, Bool.true_or]; rfl
  · rw [if_neg h, show (a == x) = false from beq_eq_false_iff_ne.2 (fun e => h e.symm), Bool.false_or]
theorem rolls_20 (k : Nat) (q b : T17.T) (q2 fnd : List Fnd) (l : List Ro) (hl : l.length ≤ 40) :
    ∀ (d i j : Nat) (M : List (Int × Bool)), i + d = l.length →
      ∃ M' : List (Int × Bool), f_u14_20 k q q2 (d + 1 + j) l (l.length : Int) (i : Int) b fnd M = f_u14_26 k q q2 j (b.2.2.2.2.2.2.2.2.2.2.2.2.2.1) (b.2.2.2.2.2.2.2.2.2.2.2.2.2.1.length : Int) 0 b fnd M' [] ∧ ∀ x, (mget I (β := Bool) x M').getD false = (idIn x (l.drop i) || (mget I (β := Bool) x M).getD false) := by
  intro d
  induction d with
  | zero =>
    intro i j M hi
    refine ⟨M, ?_, fun x => ?_⟩
    · rw [show 0 + 1 + j = j + 1 by omega, f_u14_20, decide_eq_false (by omega : ¬ (i : Int) < (l.length : Int)), cond_false]
    · rw [List.drop_of_length_le (by omega)]; rfl
  | succ d ih =>
    intro i j M hi
    obtain ⟨M', h1, h2⟩ := ih (i + 1) j (mset I (l.getD i T5.dflt).1 true M) (by omega)
    refine ⟨M', ?_, fun x => ?_⟩
    · rw [show d + 1 + 1 + j = (d + 1 + j) + 1 by omega, f_u14_20, decide_eq_true (by omega : (i : Int) < (l.length : Int)), cond_true, if_pos ⟨by omega, by omega⟩, Int.toNat_natCast, wrapS i (by omega)]
      exact h1
    · have hrw : l.drop i = l.getD i T5.dflt :: l.drop (i + 1) := drop_cons' l i T5.dflt (by omega)
      rw [h2 x, mset_get, hrw]
      show (idIn x (l.drop (i + 1)) || ((l.getD i T5.dflt).1 == x || _)) = (((l.getD i T5.dflt).1 == x || idIn x (l.drop (i + 1))) || _)
      cases idIn x (l.drop (i + 1)) <;> cases ((l.getD i T5.dflt).1 == x) <;> rfl
theorem isIn_snoc (x a : Int) (l : List Int) : isIn x (l ++ [a]) = (a == x || isIn x l) := by
  unfold isIn
  rw [List.any_append, List.any_cons, List.any_nil, Bool.or_false, Bool.or_comm]
theorem wmul_in {w n : Int} (w0 : 0 ≤ w) (w1 : w ≤ 12000) (n0 : 0 ≤ n) (n1 : n ≤ 17179869184) : 0 ≤ w * n ∧ w * n ≤ 206158430208000 := by
  constructor
  · exact Int.mul_nonneg w0 n0
  · calc w * n ≤ 12000 * n := Int.mul_le_mul_of_nonneg_right w1 n0
      _ ≤ 206158430208000 := by omega
theorem rolls_26 (k : Nat) (hk : 2100 ≤ k) (q b : T17.T) (g : GB b) (q2 : List Fnd) (hs : Smalls (b.2.2.2.2.2.2.2.2.2.2.2.1)) (hu : b.2.2.2.2.2.2.2.2.2.2.2.2.1.length = b.2.2.2.2.2.2.2.2.2.2.2.1.length) (hw : wOk (b.2.1)) (hm : mOk (b.2.2.1)) (M : List (Int × Bool)) (hM : ∀ x, (mget I (β := Bool) x M).getD false = idIn x (b.2.2.2.2.2.2.2.2.2.2.2.1)) :
    ∀ (d i j : Nat) (fnd : List Fnd) (N : List (Int × Bool)), i + d = b.2.2.2.2.2.2.2.2.2.2.2.2.2.1.length → d < j → fnd.length + d ≤ 20000 → (∀ x, (mget I (β := Bool) x N).getD false = isIn x (b.2.2.2.2.2.2.2.2.2.2.2.2.2.1.take i)) →
      f_u14_26 k q q2 j (b.2.2.2.2.2.2.2.2.2.2.2.2.2.1) (b.2.2.2.2.2.2.2.2.2.2.2.2.2.1.length : Int) (i : Int) b fnd M N = some (bs b (fnd ++ (partB (b.2.2.2.2.2.2.2.2.2.2.2.1) (b.2.2.2.2.2.2.2.2.2.2.2.2.2.1.take i) (b.2.2.2.2.2.2.2.2.2.2.2.2.2.1.drop i) ++ finS b))) := by
  have hsl := g.bScrapped
  have hci := covS_in b g hs
  intro d
  induction d with
  | zero =>
    intro i j fnd N hi hj hf hN
    obtain ⟨j, rfl⟩ : ∃ q, j = q + 1 := ⟨j - 1, by omega⟩
    rw [List.take_of_length_le (by omega)] at hN
    have hc := covered_s k hk b g fnd N hN hu hs
    have hcv : v_u10 k b fnd N = covS b := by unfold v_u10; rw [hc]; rfl
    rw [f_u14_26, decide_eq_false (by omega : ¬ (i : Int) < (b.2.2.2.2.2.2.2.2.2.2.2.2.2.1.length : Int)), cond_false, List.drop_of_length_le (by omega), partB, List.nil_append]
    unfold bs finS
    unfold wOk at hw
    unfold mOk at hm
    generalize hW : (b.2.1 : Int) = W at *
    generalize hB : (b.2.2.2.1 : Int) = B at *
    generalize hD : (b.2.2.1 : Int) = D at *
    by_cases hb : B < 0 ∨ B > D
    · have : (decide (B < (0 : Int)) || decide (B > D)) = true := by
        rcases hb with h | h
        · rw [decide_eq_true h, Bool.true_or]
        · rw [decide_eq_true h, Bool.or_true]
      rw [this, cond_true, find_s k b fnd _ _ _ (by omega), find_v k b fnd _ _ _ (by omega), Option.isSome_some, finI_b hb, if_pos rfl]
    · have : (decide (B < (0 : Int)) || decide (B > D)) = false := by
        rw [decide_eq_false (fun h => hb (.inl h)), decide_eq_false (fun h => hb (.inr h))]; rfl
      have hb1 : (0 : Int) ≤ B := Int.not_lt.1 (fun h => hb (.inl h))
      have hb2 : B ≤ D := Int.not_lt.1 (fun h => hb (.inr h))
      have hb3 : B ≤ 17179869184 := Int.le_trans hb2 hm.2
      have hmu := wmul_in (w := W) (n := B) (Int.le_trans (by decide) hw.1) hw.2 hb1 hb3
      have e1 : IntKind.i64.wrap (W * B) = W * B := wrap_id (by omega) (by omega)
      have e2 : IntKind.i64.wrap (covS b - W * B) = covS b - W * B := wrap_id (by omega) (by omega)
      rw [this, cond_false, hc, hcv, e1, e2, Option.isSome_some, if_pos rfl]
      by_cases hd : covS b - W * B = 0
      · rw [finI_0 hb hd, show (covS b - W * B != (0 : Int)) = false by rw [hd]; rfl, cond_false, List.append_nil]
      · rw [finI_d hb hd, bne_iff_ne.2 hd, cond_true, find_s k b fnd _ _ _ (by omega), find_v k b fnd _ _ _ (by omega), Option.isSome_some, if_pos rfl]
  | succ d ih =>
    intro i j fnd N hi hj hf hN
    obtain ⟨j, rfl⟩ : ∃ q, j = q + 1 := ⟨j - 1, by omega⟩
    have hrw : b.2.2.2.2.2.2.2.2.2.2.2.2.2.1.drop i = b.2.2.2.2.2.2.2.2.2.2.2.2.2.1.getD i I.dflt :: b.2.2.2.2.2.2.2.2.2.2.2.2.2.1.drop (i + 1) := drop_cons' (b.2.2.2.2.2.2.2.2.2.2.2.2.2.1) i I.dflt (by omega)
    have htk : b.2.2.2.2.2.2.2.2.2.2.2.2.2.1.take (i + 1) = b.2.2.2.2.2.2.2.2.2.2.2.2.2.1.take i ++ [b.2.2.2.2.2.2.2.2.2.2.2.2.2.1.getD i I.dflt] := take_snoc (b.2.2.2.2.2.2.2.2.2.2.2.2.2.1) i I.dflt (by omega)
    have hN' : ∀ x, (mget I (β := Bool) x (mset I (β := Bool) (b.2.2.2.2.2.2.2.2.2.2.2.2.2.1.getD i I.dflt) true N)).getD false = isIn x (b.2.2.2.2.2.2.2.2.2.2.2.2.2.1.take (i + 1)) := fun x => by rw [mset_get, hN x, htk, isIn_snoc]
    have hx : (!(mget I (β := Bool) (b.2.2.2.2.2.2.2.2.2.2.2.2.2.1.getD i I.dflt) M).getD false || (mget I (β := Bool) (b.2.2.2.2.2.2.2.2.2.2.2.2.2.1.getD i I.dflt) N).getD false) = (!idIn (b.2.2.2.2.2.2.2.2.2.2.2.2.2.1.getD i I.dflt) (b.2.2.2.2.2.2.2.2.2.2.2.1) || isIn (b.2.2.2.2.2.2.2.2.2.2.2.2.2.1.getD i I.dflt) (b.2.2.2.2.2.2.2.2.2.2.2.2.2.1.take i)) := by rw [hM, hN]
    rw [f_u14_26, decide_eq_true (by omega : (i : Int) < (b.2.2.2.2.2.2.2.2.2.2.2.2.2.1.length : Int)), cond_true, if_pos ⟨by omega, by omega⟩, Int.toNat_natCast, wrapS i (by omega), hrw, partB, ← htk]
    show (bif (!(mget I (β := Bool) (b.2.2.2.2.2.2.2.2.2.2.2.2.2.1.getD i I.dflt) M).getD false || (mget I (β := Bool) (b.2.2.2.2.2.2.2.2.2.2.2.2.2.1.getD i I.dflt) N).getD false) then _ else _) = _
    rw [hx]
    cases (!idIn (b.2.2.2.2.2.2.2.2.2.2.2.2.2.1.getD i I.dflt) (b.2.2.2.2.2.2.2.2.2.2.2.1) || isIn (b.2.2.2.2.2.2.2.2.2.2.2.2.2.1.getD i I.dflt) (b.2.2.2.2.2.2.2.2.2.2.2.2.2.1.take i))
    · rw [cond_false, cond_false, List.nil_append]
      exact ih (i + 1) j fnd _ (by omega) (by omega) (by omega) hN'
    · rw [cond_true, cond_true, find_s k b fnd _ _ _ (by omega), find_v k b fnd _ _ _ (by omega), Option.isSome_some, if_pos rfl]
      have := ih (i + 1) j (fnd ++ [(3, b.2.2.2.2.2.2.2.2.2.2.2.2.2.1.getD i I.dflt, 2)]) _ (by omega) (by omega) (by rw [List.length_append, List.length_singleton]; omega) hN'
      rw [List.append_assoc] at this
      rw [List.append_assoc]
      exact this
theorem partA_len (l : List Ro) : ∀ (a : List Ro) (u : List Int), (partA l a u).length ≤ a.length
  | [], _ => by simp [partA]
  | r :: rs, [] => by simp [partA]
  | r :: rs, u :: us => by
    have := partA_len l rs us
    have := one1_len l r u
    rw [partA, List.length_append, List.length_cons]; omega
theorem partB_len (l : List Ro) : ∀ (t b : List Int), (partB l b t).length ≤ t.length
  | [], _ => by simp [partB]
  | n :: t, b => by
    have := partB_len l t (b ++ [n])
    rw [partB, List.length_append, List.length_cons]
    cases (!idIn n l || isIn n b)
    · rw [cond_false, List.length_nil]; omega
    · rw [cond_true, List.length_singleton]; omega
theorem finS_len (b : T17.T) : (finS b).length ≤ 1 := by
  unfold finS finI; split
  · simp
  · split <;> simp
theorem rollsS_c {b : T17.T} (h : checkS (b.2.2.2.2.2.2.2.2.2.2.2.1) (b.2.1) (b.2.2.1) ≠ 0) : rollsS b = [(3, 0, checkS (b.2.2.2.2.2.2.2.2.2.2.2.1) (b.2.1) (b.2.2.1))] := by unfold rollsS; rw [if_pos h]
theorem rollsS_u {b : T17.T} (h : checkS (b.2.2.2.2.2.2.2.2.2.2.2.1) (b.2.1) (b.2.2.1) = 0) (h2 : b.2.2.2.2.2.2.2.2.2.2.2.2.1.length ≠ b.2.2.2.2.2.2.2.2.2.2.2.1.length) : rollsS b = [(3, 0, 0)] := by unfold rollsS; rw [if_neg (fun x => x h), if_pos h2]
theorem rollsS_g {b : T17.T} (h : checkS (b.2.2.2.2.2.2.2.2.2.2.2.1) (b.2.1) (b.2.2.1) = 0) (h2 : b.2.2.2.2.2.2.2.2.2.2.2.2.1.length = b.2.2.2.2.2.2.2.2.2.2.2.1.length) : rollsS b = partA (b.2.2.2.2.2.2.2.2.2.2.2.1) (b.2.2.2.2.2.2.2.2.2.2.2.1) (b.2.2.2.2.2.2.2.2.2.2.2.2.1) ++ (partB (b.2.2.2.2.2.2.2.2.2.2.2.1) [] (b.2.2.2.2.2.2.2.2.2.2.2.2.2.1) ++ finS b) := by unfold rollsS; rw [if_neg (fun x => x h), if_neg (fun x => x h2)]
theorem rollsS_len (b : T17.T) (g : GB b) : (rollsS b).length ≤ 100 := by
  have h1 := partA_len (b.2.2.2.2.2.2.2.2.2.2.2.1) (b.2.2.2.2.2.2.2.2.2.2.2.1) (b.2.2.2.2.2.2.2.2.2.2.2.2.1)
  have h2 := partB_len (b.2.2.2.2.2.2.2.2.2.2.2.1) (b.2.2.2.2.2.2.2.2.2.2.2.2.2.1) []
  have h3 := finS_len b
  have := g.bRolls
  have := g.bScrapped
  unfold rollsS
  split
  · simp
  · split
    · simp
    · rw [List.length_append, List.length_append]; omega
theorem rolls_s (k : Nat) (hk : 300000 ≤ k) (b : T17.T) (g : GB b) (fnd : List Fnd) (hf : fnd.length ≤ 1000) : f_u14 k b fnd = some (b, fnd ++ rollsS b) := by
  have hr := g.bRolls
  have hc := fam_Check_s k hk (b.2.2.2.2.2.2.2.2.2.2.2.1) (b.2.1) (b.2.2.1)
  have hcv : v_u24 k (b.2.2.2.2.2.2.2.2.2.2.2.1) (b.2.1) (b.2.2.1) = checkS (b.2.2.2.2.2.2.2.2.2.2.2.1) (b.2.1) (b.2.2.1) := by unfold v_u24; rw [hc]; rfl
  unfold f_u14
  rw [hc, hcv, Option.isSome_some, if_pos rfl]
  by_cases h1 : checkS (b.2.2.2.2.2.2.2.2.2.2.2.1) (b.2.1) (b.2.2.1) = 0
  · rw [show (checkS (b.2.2.2.2.2.2.2.2.2.2.2.1) (b.2.1) (b.2.2.1) != (0 : Int)) = false by rw [h1]; rfl, cond_false]
    by_cases h2 : b.2.2.2.2.2.2.2.2.2.2.2.2.1.length = b.2.2.2.2.2.2.2.2.2.2.2.1.length
    · obtain ⟨MM, _, hs, _⟩ := (fam_open k hk (b.2.2.2.2.2.2.2.2.2.2.2.1) (b.2.1, b.2.2.1)).2 h1
      have hreg := checkS_zero.1 h1
      rw [rollsS_g h1 h2, show ((b.2.2.2.2.2.2.2.2.2.2.2.2.1.length : Int) != (b.2.2.2.2.2.2.2.2.2.2.2.1.length : Int)) = false by rw [h2]; exact bne_self_eq_false _, cond_false]
      have e6 := rolls_6 k (by omega) b b fnd hr hs h2 (b.2.2.2.2.2.2.2.2.2.2.2.1.length) 0 (k - (b.2.2.2.2.2.2.2.2.2.2.2.1.length * (b.2.2.2.2.2.2.2.2.2.2.2.1.length + 2) + 1)) fnd (by omega) (by omega)
      have hmul : b.2.2.2.2.2.2.2.2.2.2.2.1.length * (b.2.2.2.2.2.2.2.2.2.2.2.1.length + 2) ≤ 40 * 42 := Nat.mul_le_mul hr (by omega)
      rw [show b.2.2.2.2.2.2.2.2.2.2.2.1.length * (b.2.2.2.2.2.2.2.2.2.2.2.1.length + 2) + 1 + (k - (b.2.2.2.2.2.2.2.2.2.2.2.1.length * (b.2.2.2.2.2.2.2.2.2.2.2.1.length + 2) + 1)) = k by omega, List.drop_zero, List.drop_zero] at e6
      have hpa := partA_len (b.2.2.2.2.2.2.2.2.2.2.2.1) (b.2.2.2.2.2.2.2.2.2.2.2.1) (b.2.2.2.2.2.2.2.2.2.2.2.2.1)
      obtain ⟨M', e20, hM⟩ := rolls_20 k b b fnd (fnd ++ partA (b.2.2.2.2.2.2.2.2.2.2.2.1) (b.2.2.2.2.2.2.2.2.2.2.2.1) (b.2.2.2.2.2.2.2.2.2.2.2.2.1)) (b.2.2.2.2.2.2.2.2.2.2.2.1) hr (b.2.2.2.2.2.2.2.2.2.2.2.1.length) 0 (k - (b.2.2.2.2.2.2.2.2.2.2.2.1.length * (b.2.2.2.2.2.2.2.2.2.2.2.1.length + 2) + 1) - (b.2.2.2.2.2.2.2.2.2.2.2.1.length + 1)) [] (by omega)
      rw [show b.2.2.2.2.2.2.2.2.2.2.2.1.length + 1 + (k - (b.2.2.2.2.2.2.2.2.2.2.2.1.length * (b.2.2.2.2.2.2.2.2.2.2.2.1.length + 2) + 1) - (b.2.2.2.2.2.2.2.2.2.2.2.1.length + 1)) = k - (b.2.2.2.2.2.2.2.2.2.2.2.1.length * (b.2.2.2.2.2.2.2.2.2.2.2.1.length + 2) + 1) by omega] at e20
      rw [show ((0 : Nat) : Int) = 0 from rfl] at e6 e20
      rw [e6, e20]
      have hsl := g.bScrapped
      have e26 := rolls_26 k (by omega) b b g fnd hs h2 hreg.w hreg.len M' (fun x => by rw [hM x, List.drop_zero]; exact Bool.or_false _) (b.2.2.2.2.2.2.2.2.2.2.2.2.2.1.length) 0 (k - (b.2.2.2.2.2.2.2.2.2.2.2.1.length * (b.2.2.2.2.2.2.2.2.2.2.2.1.length + 2) + 1) - (b.2.2.2.2.2.2.2.2.2.2.2.1.length + 1)) (fnd ++ partA (b.2.2.2.2.2.2.2.2.2.2.2.1) (b.2.2.2.2.2.2.2.2.2.2.2.1) (b.2.2.2.2.2.2.2.2.2.2.2.2.1)) [] (by omega) (by omega) (by rw [List.length_append]; omega) (fun x => rfl)
      rw [show ((0 : Nat) : Int) = 0 from rfl, List.take_zero, List.drop_zero, List.append_assoc] at e26
      exact e26
    · rw [rollsS_u h1 h2, bne_iff_ne.2 (show (b.2.2.2.2.2.2.2.2.2.2.2.2.1.length : Int) ≠ (b.2.2.2.2.2.2.2.2.2.2.2.1.length : Int) from fun h => h2 (by omega)), cond_true, find_s k b fnd _ _ _ (by omega), find_v k b fnd _ _ _ (by omega), Option.isSome_some, if_pos rfl]
  · rw [rollsS_c h1, bne_iff_ne.2 h1, cond_true, find_s k b fnd _ _ _ (by omega), find_v k b fnd _ _ _ (by omega), Option.isSome_some, if_pos rfl]
theorem rolls_v (k : Nat) (hk : 300000 ≤ k) (b : T17.T) (g : GB b) (fnd : List Fnd) (hf : fnd.length ≤ 1000) : v_u14 k b fnd = (b, fnd ++ rollsS b) := by
  unfold v_u14; rw [rolls_s k hk b g fnd hf]; rfl
theorem Rolls_s (k : Nat) (hk : 300000 ≤ k) (b : T17.T) (g : GB b) : f_u3 k b = some (rollsS b, 0) := by
  have h1 : f_u21 k b = some (rollsS b, 0) := by
    unfold f_u21
    have e1 : f_u4 k b [] = some b := rfl
    have e2 : v_u4 k b [] = b := rfl
    obtain ⟨k', rfl⟩ : ∃ q, k = q + 2 := ⟨k - 2, by omega⟩
    rw [full_s _ (by omega) b g, full_v _ (by omega) b g, e1, e2, Option.isSome_some, if_pos rfl, cond_false, Option.isSome_some, if_pos rfl]
    rw [f_u21_10005, if_pos ⟨by omega, by decide⟩, rolls_s _ hk b g [] (by simp), rolls_v _ hk b g [] (by simp), Option.isSome_some, if_pos rfl, f_u21_20005]
    rfl
  unfold f_u3
  rw [show v_u21 k b = (rollsS b, 0) by unfold v_u21; rw [h1]; rfl, h1, Option.isSome_some, if_pos rfl]
theorem Rolls_v (k : Nat) (hk : 300000 ≤ k) (b : T17.T) (g : GB b) : v_u3 k b = (rollsS b, 0) := by
  unfold v_u3; rw [Rolls_s k hk b g]; rfl
end Go.AM
namespace Go.AM
open Go Go.Proofs
noncomputable section
abbrev R_u78 : Type := Int
def res_u78 (r : R_u78) : AV := .r (.v (.int .i64 r))
def bo_u78 (m_ : List (T3).T) (r : R_u78) : List (Nat × Blk) := []
def args_u78 (m_ : List (T3).T) : List AV := [.r (.ro T3 m_)]
def bin_u78 (m_ : List (T3).T) : List Blk := []
abbrev C_u78 (m_ : List (T3).T) (r : R_u78) : Prop := CC Tryz.prog 44 (args_u78 m_) (bin_u78 m_) (res_u78 r) (bo_u78 m_ r)
def st_u78_3 (y0 : List (T3).T) (y1 : Int) (y2 : Int) : St := ⟨mkS 38 [(0, .r (.ro T3 y0)), (3, .r (.v (.int .i64 y1))), (4, .r (.v (.int .i64 y2)))], []⟩
def f_u78_3 (k : Nat) : Nat → List (T3).T → Int → Int → Option R_u78
  | 0, _, _, _ => none
  | j + 1, y0, y1, y2 =>
  bif (decide (y2 < (↑y0.length : Int))) then
  if (0 ≤ y2) ∧ (y2 < (↑y0.length : Int)) then
  if (0 ≤ y2) ∧ (y2 < (↑y0.length : Int)) then
  bif (y0.getD y2.toNat T3.dflt).2.2 then
  if (0 ≤ y2) ∧ (y2 < (↑y0.length : Int)) ∧ (0 ≤ y2) ∧ (y2 < (↑y0.length : Int)) then
  f_u78_3 k j y0 ((if IntKind.i64.wrap (IntKind.i64.wrap ((y0.getD y2.toNat T3.dflt).1 - (y0.getD y2.toNat T3.dflt).2.1) + 1) < y1 then IntKind.i64.wrap (IntKind.i64.wrap ((y0.getD y2.toNat T3.dflt).1 - (y0.getD y2.toNat T3.dflt).2.1) + 1) else y1)) ((IntKind.i64.wrap (y2 + 1)))
  else none
  else
  f_u78_3 k j y0 ((if (y0.getD y2.toNat T3.dflt).1 < y1 then (y0.getD y2.toNat T3.dflt).1 else y1)) ((IntKind.i64.wrap (y2 + 1)))
  else none
  else none
  else
  some y1
def f_u78 (k : Nat) (m_ : List (T3).T) : Option R_u78 :=
  f_u78_3 k k m_ 17179869184 0
def v_u78 (k : Nat) (m_ : List (T3).T) : R_u78 := (f_u78 k m_).getD 0
def ke_u78 (k : Nat) : Ke := (44, fun xs => match xs with
  | [_] => some [false]
  | _ => none, fun xs bs => match xs, bs with
  | [.r (.ro tm__ qm_)], [] => (castL tm__ T3 qm_).bind fun m_ => some (.one (res_u78 (v_u78 k m_), bo_u78 m_ (v_u78 k m_)))
  | _, _ => none)
def cs_u78 : List (Nat × List Cmd) := [(3, [.autoB [0, 3, 4] false []])]
abbrev E_u78 (m_ : List (T3).T) (todo : List Item) (st : St) (o : Option R_u78) : Prop := ∀ r, o = some r → Ev Tryz.prog Tryz.f44 0 todo st (res_u78 r) (bo_u78 m_ r)
theorem ev_u78 (k : Nat) (m_ : List (T3).T) : ∀ j, (∀ (y0 : List (T3).T) (y1 : Int) (y2 : Int), E_u78 m_ (placeAt Tryz.f44 3) (st_u78_3 y0 y1 y2) (f_u78_3 k j y0 y1 y2))
  | 0 => fun _ _ _ _ h => (nomatch h)
  | j + 1 => by
    have ih := @ev_u78 k m_ j
    · intro y0 y1 y2 r h
      rw [f_u78_3] at h
      exact go (mkK []) [] cs_u78 [.autoB [2] true []] (gT h (fun c h => gN2 h fun h => gN2 h fun h => gT h (fun c h => gN h (fun q => conjC q.1 (conjC q.2.1 (conjC q.2.2.1 (conjC q.2.2.2 conj0)))) fun h => gC h 3 (ih _ _ _ _)) fun c h => gC h 3 (ih _ _ _ _)) fun c h => gL h) (by kernel_rfl)
theorem of_u78 (k : Nat) (m_ : List (T3).T) (r : R_u78) (h : f_u78 k m_ = some r) : C_u78 m_ r := by
  refine CC.of (fn := Tryz.f44) (by kernel_rfl) (by kernel_rfl) (by kernel_rfl) (by kernel_rfl) ?_
  unfold f_u78 at h
  exact go (mkK []) [] cs_u78 [.autoB [2] true []] (gC h 3 ((ev_u78 k m_ k) _ _ _ _)) (by kernel_rfl)
theorem cc_u78 {k : Nat} {m_ : List (T3).T} (h : (f_u78 k m_).isSome = true) : C_u78 m_ (v_u78 k m_) := ccG (Φ := C_u78 m_) h (of_u78 k m_)
abbrev R_u77 : Type := Bool
def res_u77 (r : R_u77) : AV := .r (.v (.bool r))
def bo_u77 (l_ : List (I).T) (n_ : Int) (x_ : Int) (r : R_u77) : List (Nat × Blk) := []
def args_u77 (l_ : List (I).T) (n_ : Int) (x_ : Int) : List AV := [.r (.ro I l_), .r (.v (.int .i64 n_)), .r (.v (.int .i64 x_))]
def bin_u77 (l_ : List (I).T) (n_ : Int) (x_ : Int) : List Blk := []
abbrev C_u77 (l_ : List (I).T) (n_ : Int) (x_ : Int) (r : R_u77) : Prop := CC Tryz.prog 45 (args_u77 l_ n_ x_) (bin_u77 l_ n_ x_) (res_u77 r) (bo_u77 l_ n_ x_ r)
def st_u77_2 (y0 : List (I).T) (y1 : Int) (y2 : Int) (y3 : Int) : St := ⟨mkS 19 [(0, .r (.ro I y0)), (1, .r (.v (.int .i64 y1))), (2, .r (.v (.int .i64 y2))), (7, .r (.v (.int .i64 y3)))], []⟩
def f_u77_2 (k : Nat) : Nat → List (I).T → Int → Int → Int → Option R_u77
  | 0, _, _, _, _ => none
  | j + 1, y0, y1, y2, y3 =>
  bif (decide (y3 < y1)) then
  if (0 ≤ y3) ∧ (y3 < (↑y0.length : Int)) then
  bif (y0.getD y3.toNat I.dflt == y2) then
  some true
  else
  f_u77_2 k j y0 y1 y2 ((IntKind.i64.wrap (y3 + 1)))
  else none
  else
  some false
def f_u77 (k : Nat) (l_ : List (I).T) (n_ : Int) (x_ : Int) : Option R_u77 :=
  f_u77_2 k k l_ n_ x_ 0
def v_u77 (k : Nat) (l_ : List (I).T) (n_ : Int) (x_ : Int) : R_u77 := (f_u77 k l_ n_ x_).getD false
def ke_u77 (k : Nat) : Ke := (45, fun xs => match xs with
  | [_, _, _] => some [false, false, false]
  | _ => none, fun xs bs => match xs, bs with
  | [.r (.ro tl__ ql_), .r (.v (.int .i64 n_)), .r (.v (.int .i64 x_))], [] => (castL tl__ I ql_).bind fun l_ => some (.one (res_u77 (v_u77 k l_ n_ x_), bo_u77 l_ n_ x_ (v_u77 k l_ n_ x_)))
  | _, _ => none)
def cs_u77 : List (Nat × List Cmd) := [(2, [.autoB [0, 1, 2, 7] false []])]
abbrev E_u77 (l_ : List (I).T) (n_ : Int) (x_ : Int) (todo : List Item) (st : St) (o : Option R_u77) : Prop := ∀ r, o = some r → Ev Tryz.prog Tryz.f45 0 todo st (res_u77 r) (bo_u77 l_ n_ x_ r)
theorem ev_u77 (k : Nat) (l_ : List (I).T) (n_ : Int) (x_ : Int) : ∀ j, (∀ (y0 : List (I).T) (y1 : Int) (y2 : Int) (y3 : Int), E_u77 l_ n_ x_ (placeAt Tryz.f45 2) (st_u77_2 y0 y1 y2 y3) (f_u77_2 k j y0 y1 y2 y3))
  | 0 => fun _ _ _ _ _ h => (nomatch h)
  | j + 1 => by
    have ih := @ev_u77 k l_ n_ x_ j
    · intro y0 y1 y2 y3 r h
      rw [f_u77_2] at h
      exact go (mkK []) [] cs_u77 [.autoB [6] true []] (gT h (fun c h => gN2 h fun h => gT h (fun c h => gL h) fun c h => gC h 2 (ih _ _ _ _ _)) fun c h => gL h) (by kernel_rfl)
theorem of_u77 (k : Nat) (l_ : List (I).T) (n_ : Int) (x_ : Int) (r : R_u77) (h : f_u77 k l_ n_ x_ = some r) : C_u77 l_ n_ x_ r := by
  refine CC.of (fn := Tryz.f45) (by kernel_rfl) (by kernel_rfl) (by kernel_rfl) (by kernel_rfl) ?_
  unfold f_u77 at h
  exact go (mkK []) [] cs_u77 [.autoB [6] true []] (gC h 2 ((ev_u77 k l_ n_ x_ k) _ _ _ _ _)) (by kernel_rfl)
theorem cc_u77 {k : Nat} {l_ : List (I).T} {n_ : Int} {x_ : Int} (h : (f_u77 k l_ n_ x_).isSome = true) : C_u77 l_ n_ x_ (v_u77 k l_ n_ x_) := ccG (Φ := C_u77 l_ n_ x_) h (of_u77 k l_ n_ x_)
abbrev R_u74 : Type := List (T18).T × Int
def res_u74 (r : R_u74) : AV := .tup [.r (.ro T18 r.1), .r (.v (.int .i64 r.2))]
def bo_u74 (t_ : T17.T) (r : R_u74) : List (Nat × Blk) := []
def args_u74 (t_ : T17.T) : List AV := [.agg (rvs (enc T17 t_))]
def bin_u74 (t_ : T17.T) : List Blk := []
abbrev C_u74 (t_ : T17.T) (r : R_u74) : Prop := CC Tryz.prog 18 (args_u74 t_) (bin_u74 t_) (res_u74 r) (bo_u74 t_ r)
def st_u74_12 (y0 : Int) (y1 : Int) (y2 : T17.T) (y3 : List (T18).T) : St := ⟨mkS 223 [(1, .ptr 1000000 0 0), (5, .own 1000001 0), (6, .r (.v (.int .i64 y0))), (7, .r (.v (.int .i64 y1)))], [(1000000, 0, .var 36 (rvs (enc T17 y2))), (1000001, 0, .row 54 T18 y3)]⟩
def st_u74_19 (y0 : Int) (y1 : Int) (y2 : Int) (y3 : Int) (y4 : Bool) (y5 : Int) (y6 : T17.T) (y7 : List (T18).T) (y8 : T5.T) : St := ⟨mkS 223 [(1, .ptr 1000000 0 0), (5, .own 1000001 0), (6, .r (.v (.int .i64 y0))), (7, .r (.v (.int .i64 y1))), (8, .ptr 1000002 0 0), (9, .r (.v (.int .i64 y2))), (10, .r (.v (.int .i64 y3))), (11, .r (.v (.bool y4))), (12, .r (.v (.int .i64 y5)))], [(1000000, 0, .var 36 (rvs (enc T17 y6))), (1000001, 0, .row 54 T18 y7), (1000002, 0, .var 47 (rvs (enc T5 y8)))]⟩
def st_u74_28 (y0 : Int) (y1 : Int) (y2 : T17.T) (y3 : List (T18).T) : St := ⟨mkS 223 [(1, .ptr 1000000 0 0), (5, .own 1000001 0), (6, .r (.v (.int .i64 y0))), (13, .r (.v (.int .i64 y1)))], [(1000000, 0, .var 36 (rvs (enc T17 y2))), (1000001, 0, .row 54 T18 y3)]⟩
def st_u74_35 (y0 : Int) (y1 : Int) (y2 : T17.T) (y3 : List (T18).T) : St := ⟨mkS 223 [(1, .ptr 1000000 0 0), (5, .own 1000001 0), (6, .r (.v (.int .i64 y0))), (14, .r (.v (.int .i64 y1)))], [(1000000, 0, .var 36 (rvs (enc T17 y2))), (1000001, 0, .row 54 T18 y3)]⟩
mutual
def f_u74_12 (k : Nat) : Nat → Int → Int → T17.T → List (T18).T → Option R_u74
  | 0, _, _, _, _ => none
  | j + 1, y0, y1, y2, y3 =>
  bif (decide (y1 < (↑ (List.length y2.2.2.2.2.2.2.2.2.2.2.2.1) : Int))) then
  if (0 ≤ y1) ∧ (y1 < (↑ (List.length y2.2.2.2.2.2.2.2.2.2.2.2.1) : Int)) then
  if ((f_u69 k (List.getD y2.2.2.2.2.2.2.2.2.2.2.2.1 y1.toNat T5.dflt).2.2.2.2.2).isSome = true) then
  if (0 ≤ y1) ∧ (y1 < (↑ (List.length y2.2.2.2.2.2.2.2.2.2.2.2.2.1) : Int)) then
  if (0 ≤ y1) ∧ (y1 < (↑ (List.length y2.2.2.2.2.2.2.2.2.2.2.2.2.1) : Int)) then
  f_u74_19 k j y0 y1 ((v_u69 k (List.getD y2.2.2.2.2.2.2.2.2.2.2.2.1 y1.toNat T5.dflt).2.2.2.2.2)) ((if v_u69 k (List.getD y2.2.2.2.2.2.2.2.2.2.2.2.1 y1.toNat T5.dflt).2.2.2.2.2 < if 0 > List.getD y2.2.2.2.2.2.2.2.2.2.2.2.2.1 y1.toNat I.dflt then 0 else List.getD y2.2.2.2.2.2.2.2.2.2.2.2.2.1 y1.toNat I.dflt then v_u69 k (List.getD y2.2.2.2.2.2.2.2.2.2.2.2.1 y1.toNat T5.dflt).2.2.2.2.2 else if 0 > List.getD y2.2.2.2.2.2.2.2.2.2.2.2.2.1 y1.toNat I.dflt then 0 else List.getD y2.2.2.2.2.2.2.2.2.2.2.2.2.1 y1.toNat I.dflt)) (((if v_u69 k (List.getD y2.2.2.2.2.2.2.2.2.2.2.2.1 y1.toNat T5.dflt).2.2.2.2.2 < if 0 > List.getD y2.2.2.2.2.2.2.2.2.2.2.2.2.1 y1.toNat I.dflt then 0 else List.getD y2.2.2.2.2.2.2.2.2.2.2.2.2.1 y1.toNat I.dflt then v_u69 k (List.getD y2.2.2.2.2.2.2.2.2.2.2.2.1 y1.toNat T5.dflt).2.2.2.2.2 else if 0 > List.getD y2.2.2.2.2.2.2.2.2.2.2.2.2.1 y1.toNat I.dflt then 0 else List.getD y2.2.2.2.2.2.2.2.2.2.2.2.2.1 y1.toNat I.dflt) == List.getD y2.2.2.2.2.2.2.2.2.2.2.2.2.1 y1.toNat I.dflt)) 0 y2 y3 ((List.getD y2.2.2.2.2.2.2.2.2.2.2.2.1 y1.toNat T5.dflt))
  else none
  else none
  else none
  else none
  else
  f_u74_28 k j y0 0 y2 y3
def f_u74_19 (k : Nat) : Nat → Int → Int → Int → Int → Bool → Int → T17.T → List (T18).T → T5.T → Option R_u74
  | 0, _, _, _, _, _, _, _, _, _ => none
  | j + 1, y0, y1, y2, y3, y4, y5, y6, y7, y8 =>
  bif (decide (y5 < (↑ (List.length y6.2.2.2.2.2.2.2.2.2.2.2.1) : Int))) then
  bif ((List.getD y6.2.2.2.2.2.2.2.2.2.2.2.1 y5.toNat T5.dflt).2.1 == y8.1) then
  if (0 ≤ y5) ∧ (y5 < (↑ (List.length y6.2.2.2.2.2.2.2.2.2.2.2.1) : Int)) ∧ (((List.getD y6.2.2.2.2.2.2.2.2.2.2.2.1 y5.toNat T5.dflt).2.1 == y8.1) = true) ∧ (0 ≤ y5) ∧ (y5 < (↑ (List.length y6.2.2.2.2.2.2.2.2.2.2.2.1) : Int)) ∧ ((f_u78 k (List.getD y6.2.2.2.2.2.2.2.2.2.2.2.1 y5.toNat T5.dflt).2.2.2.2.2).isSome = true) then
  bif (true && decide (v_u78 k (List.getD y6.2.2.2.2.2.2.2.2.2.2.2.1 y5.toNat T5.dflt).2.2.2.2.2 < IntKind.i64.wrap (y2 - y3))) then
  f_u74_19 k j y0 y1 y2 y3 false ((IntKind.i64.wrap (y5 + 1))) y6 y7 y8
  else
  f_u74_19 k j y0 y1 y2 y3 y4 ((IntKind.i64.wrap (y5 + 1))) y6 y7 y8
  else none
  else
  if (0 ≤ y5) ∧ (y5 < (↑ (List.length y6.2.2.2.2.2.2.2.2.2.2.2.1) : Int)) ∧ (((List.getD y6.2.2.2.2.2.2.2.2.2.2.2.1 y5.toNat T5.dflt).2.1 == y8.1) = false) then
  f_u74_19 k j y0 y1 y2 y3 y4 ((IntKind.i64.wrap (y5 + 1))) y6 y7 y8
  else none
  else
  bif (!y4) then
  if ((y7.length + [((3 : Int), y8.1, (1 : Int))].length) * (24 : Nat) ≤ (140737488355328 : Nat)) then
  if ((f_u77 k y6.2.2.2.2.2.2.2.2.2.2.2.2.2.1 (↑ (List.length y6.2.2.2.2.2.2.2.2.2.2.2.2.2.1) : Int) y8.1).isSome = true) then
  bif (!v_u77 k y6.2.2.2.2.2.2.2.2.2.2.2.2.2.1 (↑ (List.length y6.2.2.2.2.2.2.2.2.2.2.2.2.2.1) : Int) y8.1) then
  f_u74_12 k j ((IntKind.i64.wrap (y0 + IntKind.i64.wrap (y8.2.2.2.1 * IntKind.i64.wrap (y2 - y3))))) ((IntKind.i64.wrap (y1 + 1))) y6 ((y7 ++ [(3, y8.1, 1)]))
  else
  f_u74_12 k j y0 ((IntKind.i64.wrap (y1 + 1))) y6 ((y7 ++ [(3, y8.1, 1)]))
  else none
  else none
  else
  if ((f_u77 k y6.2.2.2.2.2.2.2.2.2.2.2.2.2.1 (↑ (List.length y6.2.2.2.2.2.2.2.2.2.2.2.2.2.1) : Int) y8.1).isSome = true) then
  bif (!v_u77 k y6.2.2.2.2.2.2.2.2.2.2.2.2.2.1 (↑ (List.length y6.2.2.2.2.2.2.2.2.2.2.2.2.2.1) : Int) y8.1) then
  f_u74_12 k j ((IntKind.i64.wrap (y0 + IntKind.i64.wrap (y8.2.2.2.1 * IntKind.i64.wrap (y2 - y3))))) ((IntKind.i64.wrap (y1 + 1))) y6 y7
  else
  f_u74_12 k j y0 ((IntKind.i64.wrap (y1 + 1))) y6 y7
  else none
def f_u74_28 (k : Nat) : Nat → Int → Int → T17.T → List (T18).T → Option R_u74
  | 0, _, _, _, _ => none
  | j + 1, y0, y1, y2, y3 =>
  bif (decide (y1 < (↑ (List.length y2.2.2.2.2.2.2.2.2.2.2.2.2.2.1) : Int))) then
  bif (decide (v_u68 k y2.2.2.2.2.2.2.2.2.2.2.2.1 (↑ (List.length y2.2.2.2.2.2.2.2.2.2.2.2.1) : Int) (List.getD y2.2.2.2.2.2.2.2.2.2.2.2.2.2.1 y1.toNat I.dflt) < (0 : Int))) then
  if (0 ≤ y1) ∧ (y1 < (↑ (List.length y2.2.2.2.2.2.2.2.2.2.2.2.2.2.1) : Int)) ∧ ((f_u68 k y2.2.2.2.2.2.2.2.2.2.2.2.1 (↑ (List.length y2.2.2.2.2.2.2.2.2.2.2.2.1) : Int) (List.getD y2.2.2.2.2.2.2.2.2.2.2.2.2.2.1 y1.toNat I.dflt)).isSome = true) ∧ (decide (v_u68 k y2.2.2.2.2.2.2.2.2.2.2.2.1 (↑ (List.length y2.2.2.2.2.2.2.2.2.2.2.2.1) : Int) (List.getD y2.2.2.2.2.2.2.2.2.2.2.2.2.2.1 y1.toNat I.dflt) < (0 : Int)) = true) then
  if (0 ≤ y1) ∧ (y1 < (↑ (List.length y2.2.2.2.2.2.2.2.2.2.2.2.2.2.1) : Int)) ∧ ((y3.length + [((3 : Int), List.getD y2.2.2.2.2.2.2.2.2.2.2.2.2.2.1 y1.toNat I.dflt, (2 : Int))].length) * (24 : Nat) ≤ (140737488355328 : Nat)) then
  f_u74_28 k j y0 ((IntKind.i64.wrap (y1 + 1))) y2 ((y3 ++ [(3, List.getD y2.2.2.2.2.2.2.2.2.2.2.2.2.2.1 y1.toNat I.dflt, 2)]))
  else none
  else none
  else
  if (0 ≤ y1) ∧ (y1 < (↑ (List.length y2.2.2.2.2.2.2.2.2.2.2.2.2.2.1) : Int)) ∧ ((f_u68 k y2.2.2.2.2.2.2.2.2.2.2.2.1 (↑ (List.length y2.2.2.2.2.2.2.2.2.2.2.2.1) : Int) (List.getD y2.2.2.2.2.2.2.2.2.2.2.2.2.2.1 y1.toNat I.dflt)).isSome = true) ∧ (decide (v_u68 k y2.2.2.2.2.2.2.2.2.2.2.2.1 (↑ (List.length y2.2.2.2.2.2.2.2.2.2.2.2.1) : Int) (List.getD y2.2.2.2.2.2.2.2.2.2.2.2.2.2.1 y1.toNat I.dflt) < (0 : Int)) = false) ∧ (0 ≤ y1) ∧ (y1 < (↑ (List.length y2.2.2.2.2.2.2.2.2.2.2.2.2.2.1) : Int)) ∧ ((f_u77 k y2.2.2.2.2.2.2.2.2.2.2.2.2.2.1 y1 (List.getD y2.2.2.2.2.2.2.2.2.2.2.2.2.2.1 y1.toNat I.dflt)).isSome = true) then
  bif (false || v_u77 k y2.2.2.2.2.2.2.2.2.2.2.2.2.2.1 y1 (List.getD y2.2.2.2.2.2.2.2.2.2.2.2.2.2.1 y1.toNat I.dflt)) then
  if (0 ≤ y1) ∧ (y1 < (↑ (List.length y2.2.2.2.2.2.2.2.2.2.2.2.2.2.1) : Int)) ∧ ((y3.length + [((3 : Int), List.getD y2.2.2.2.2.2.2.2.2.2.2.2.2.2.1 y1.toNat I.dflt, (2 : Int))].length) * (24 : Nat) ≤ (140737488355328 : Nat)) then
  f_u74_28 k j y0 ((IntKind.i64.wrap (y1 + 1))) y2 ((y3 ++ [(3, List.getD y2.2.2.2.2.2.2.2.2.2.2.2.2.2.1 y1.toNat I.dflt, 2)]))
  else none
  else
  f_u74_28 k j y0 ((IntKind.i64.wrap (y1 + 1))) y2 y3
  else none
  else
  bif (decide (y2.2.2.2.1 < (0 : Int)) || decide (y2.2.2.2.1 > y2.2.2.1)) then
  if ((y3.length + [((3 : Int), (0 : Int), (3 : Int))].length) * (24 : Nat) ≤ (140737488355328 : Nat)) then
  some ((y3 ++ [(3, 0, 3)], 0))
  else none
  else
  f_u74_35 k j y0 0 y2 y3
def f_u74_35 (k : Nat) : Nat → Int → Int → T17.T → List (T18).T → Option R_u74
  | 0, _, _, _, _ => none
  | j + 1, y0, y1, y2, y3 =>
  bif (decide (y1 < (↑ (List.length y2.2.2.2.2.2.2.2.2.2.2.2.2.2.2.2.2.2.2.2.2.1) : Int))) then
  if (0 ≤ y1) ∧ (y1 < (↑ (List.length y2.2.2.2.2.2.2.2.2.2.2.2.2.2.2.2.2.2.2.2.2.1) : Int)) then
  f_u74_35 k j ((IntKind.i64.wrap (y0 + if 206158430208000 < if 0 > (List.getD y2.2.2.2.2.2.2.2.2.2.2.2.2.2.2.2.2.2.2.2.2.1 y1.toNat T14.dflt).2.2.2 then 0 else (List.getD y2.2.2.2.2.2.2.2.2.2.2.2.2.2.2.2.2.2.2.2.2.1 y1.toNat T14.dflt).2.2.2 then 206158430208000 else if 0 > (List.getD y2.2.2.2.2.2.2.2.2.2.2.2.2.2.2.2.2.2.2.2.2.1 y1.toNat T14.dflt).2.2.2 then 0 else (List.getD y2.2.2.2.2.2.2.2.2.2.2.2.2.2.2.2.2.2.2.2.2.1 y1.toNat T14.dflt).2.2.2))) ((IntKind.i64.wrap (y1 + 1))) y2 y3
  else none
  else
  bif (IntKind.i64.wrap (IntKind.i64.wrap (y0 + IntKind.i64.wrap (y2.2.1 * IntKind.i64.wrap (y2.2.2.1 - y2.2.2.2.1))) - IntKind.i64.wrap (y2.2.1 * y2.2.2.1)) != (0 : Int)) then
  if ((y3.length + [((4 : Int), IntKind.i64.wrap (IntKind.i64.wrap (y0 + IntKind.i64.wrap (y2.2.1 * IntKind.i64.wrap (y2.2.2.1 - y2.2.2.2.1))) - IntKind.i64.wrap (y2.2.1 * y2.2.2.1)), (0 : Int))].length) * (24 : Nat) ≤ (140737488355328 : Nat)) then
  some ((y3 ++ [(4, IntKind.i64.wrap (IntKind.i64.wrap (y0 + IntKind.i64.wrap (y2.2.1 * IntKind.i64.wrap (y2.2.2.1 - y2.2.2.2.1))) - IntKind.i64.wrap (y2.2.1 * y2.2.2.1)), 0)], 0))
  else none
  else
  some ((y3, 0))
end
def f_u74 (k : Nat) (t_ : T17.T) : Option R_u74 :=
  if ((f_u73 k t_).isSome = true) then
  bif (v_u73 k t_ != (0 : Int)) then
  some (([], v_u73 k t_))
  else
  if ((f_u67 k t_.2.2.2.2.2.2.2.2.2.2.2.1 t_.2.1 t_.2.2.1).isSome = true) then
  bif (v_u67 k t_.2.2.2.2.2.2.2.2.2.2.2.1 t_.2.1 t_.2.2.1 != (0 : Int)) then
  some (([(3, 0, v_u67 k t_.2.2.2.2.2.2.2.2.2.2.2.1 t_.2.1 t_.2.2.1)], 0))
  else
  bif ((↑ (List.length t_.2.2.2.2.2.2.2.2.2.2.2.2.1) : Int) != (↑ (List.length t_.2.2.2.2.2.2.2.2.2.2.2.1) : Int)) then
  some (([(3, 0, 0)], 0))
  else
  f_u74_12 k k 0 0 t_ ([])
  else none
  else none
def v_u74 (k : Nat) (t_ : T17.T) : R_u74 := (f_u74 k t_).getD ([], 0)
def ke_u74 (k : Nat) : Ke := (18, fun xs => match xs with
  | [_] => some [false]
  | _ => none, fun xs bs => match xs, bs with
  | [.agg qt_], [] => (decS [] T17 qt_).bind fun t_ => some (.one (res_u74 (v_u74 k t_), bo_u74 t_ (v_u74 k t_)))
  | _, _ => none)
def K_u74 (k : Nat) : Calld := mkK [ke_u73 k, ke_u68 k, ke_u69 k, ke_u67 k, ke_u78 k, ke_u77 k]
def cs_u74 : List (Nat × List Cmd) := [(12, [.row 5 54 T18, .autoB [1, 5, 6, 7] false []]), (19, [.autoB [1, 5, 6, 7, 8, 9, 10, 11, 12] false []]), (28, [.autoB [1, 5, 6, 13] false []]), (35, [.autoB [1, 5, 6, 14] false []])]
abbrev E_u74 (t_ : T17.T) (todo : List Item) (st : St) (o : Option R_u74) : Prop := ∀ r, o = some r → Ev Tryz.prog Tryz.f18 0 todo st (res_u74 r) (bo_u74 t_ r)
theorem ev_u74 (k : Nat) (t_ : T17.T) : ∀ j, (∀ (y0 : Int) (y1 : Int) (y2 : T17.T) (y3 : List (T18).T), E_u74 t_ (placeAt Tryz.f18 12) (st_u74_12 y0 y1 y2 y3) (f_u74_12 k j y0 y1 y2 y3)) ∧ (∀ (y0 : Int) (y1 : Int) (y2 : Int) (y3 : Int) (y4 : Bool) (y5 : Int) (y6 : T17.T) (y7 : List (T18).T) (y8 : T5.T), E_u74 t_ (placeAt Tryz.f18 19) (st_u74_19 y0 y1 y2 y3 y4 y5 y6 y7 y8) (f_u74_19 k j y0 y1 y2 y3 y4 y5 y6 y7 y8)) ∧ (∀ (y0 : Int) (y1 : Int) (y2 : T17.T) (y3 : List (T18).T), E_u74 t_ (placeAt Tryz.f18 28) (st_u74_28 y0 y1 y2 y3) (f_u74_28 k j y0 y1 y2 y3)) ∧ (∀ (y0 : Int) (y1 : Int) (y2 : T17.T) (y3 : List (T18).T), E_u74 t_ (placeAt Tryz.f18 35) (st_u74_35 y0 y1 y2 y3) (f_u74_35 k j y0 y1 y2 y3))
  | 0 => ⟨fun _ _ _ _ _ h => (nomatch h), fun _ _ _ _ _ _ _ _ _ _ h => (nomatch h), fun _ _ _ _ _ h => (nomatch h), fun _ _ _ _ _ h => (nomatch h)⟩
  | j + 1 => by
    have ih := @ev_u74 k t_ j
    refine ⟨?_, ?_, ?_, ?_⟩
    · intro y0 y1 y2 y3 r h
      rw [f_u74_12] at h
      exact go (K_u74 k) [] cs_u74 [.frz 2 false (RTy.list T18), .autoB [2, 3] true []] (gT h (fun c h => gN2 h fun h => gN1 h (fun q => cc_u69 q) fun h => gN2 h fun h => gN2 h fun h => gC h 19 (ih.2.1 _ _ _ _ _ _ _ _ _ _)) fun c h => gC h 28 (ih.2.2.1 _ _ _ _ _)) (by kernel_rfl)
    · intro y0 y1 y2 y3 y4 y5 y6 y7 y8 r h
      rw [f_u74_19] at h
      exact go (K_u74 k) [] cs_u74 [.frz 2 false (RTy.list T18), .autoB [2, 3] true []] (gT h (fun c h => gT h (fun c h => gN h (fun q => conjC q.1 (conjC q.2.1 (conjC q.2.2.1 (conjC q.2.2.2.1 (conjC q.2.2.2.2.1 (conjC (cc_u78 q.2.2.2.2.2) conj0)))))) fun h => gT h (fun c h => gC h 19 (ih.2.1 _ _ _ _ _ _ _ _ _ _)) fun c h => gC h 19 (ih.2.1 _ _ _ _ _ _ _ _ _ _)) fun c h => gN h (fun q => conjC q.1 (conjC q.2.1 (conjC q.2.2 conj0))) fun h => gU2 h (.cut 19 (placeAt Tryz.f18 19) ⟨mkS 223 [(1, .ptr 1000000 0 0), (5, .own 1000001 0), (6, .r (.v (.int .i64 y0))), (7, .r (.v (.int .i64 y1))), (8, .ptr 1000002 0 0), (9, .r (.v (.int .i64 y2))), (10, .r (.v (.int .i64 y3))), (11, .r (.v (.bool false))), (12, .r (.v (.int .i64 ((IntKind.i64.wrap (y5 + 1))))))], [(1000000, 0, .var 36 (rvs (enc T17 y6))), (1000001, 0, .row 54 T18 y7), (1000002, 0, .var 47 (rvs (enc T5 y8)))]⟩) fun h => gC h 19 (ih.2.1 _ _ _ _ _ _ _ _ _ _)) fun c h => gT h (fun c h => gN1 h id fun h => gN1 h (fun q => cc_u77 q) fun h => gT h (fun c h => gC h 12 (ih.1 _ _ _ _ _)) fun c h => gC h 12 (ih.1 _ _ _ _ _)) fun c h => gN1 h (fun q => cc_u77 q) fun h => gT h (fun c h => gC h 12 (ih.1 _ _ _ _ _)) fun c h => gC h 12 (ih.1 _ _ _ _ _)) (by kernel_rfl)
    · intro y0 y1 y2 y3 r h
      rw [f_u74_28] at h
      exact go (K_u74 k) [] cs_u74 [.frz 2 false (RTy.list T18), .autoB [2, 3] true []] (gT h (fun c h => gT h (fun c h => gN h (fun q => conjC q.1 (conjC q.2.1 (conjC (cc_u68 q.2.2.1) (conjC q.2.2.2 conj0)))) fun h => gU1 h (.cut 28 (placeAt Tryz.f18 28) ⟨mkS 223 [(1, .ptr 1000000 0 0), (5, .own 1000001 0), (6, .r (.v (.int .i64 y0))), (13, .r (.v (.int .i64 ((IntKind.i64.wrap (y1 + 1))))))], [(1000000, 0, .var 36 (rvs (enc T17 y2))), (1000001, 0, .row 54 T18 y3)]⟩) fun h => gN h (fun q => conjC q.1 (conjC q.2.1 (conjC q.2.2 conj0))) fun h => gC h 28 (ih.2.2.1 _ _ _ _ _)) fun c h => gN h (fun q => conjC q.1 (conjC q.2.1 (conjC (cc_u68 q.2.2.1) (conjC q.2.2.2.1 (conjC q.2.2.2.2.1 (conjC q.2.2.2.2.2.1 (conjC (cc_u77 q.2.2.2.2.2.2) conj0))))))) fun h => gT h (fun c h => gN h (fun q => conjC q.1 (conjC q.2.1 (conjC q.2.2 conj0))) fun h => gC h 28 (ih.2.2.1 _ _ _ _ _)) fun c h => gC h 28 (ih.2.2.1 _ _ _ _ _)) fun c h => gT h (fun c h => gN1 h id fun h => gL h) fun c h => gC h 35 (ih.2.2.2 _ _ _ _ _)) (by kernel_rfl)
    · intro y0 y1 y2 y3 r h
      rw [f_u74_35] at h
      exact go (K_u74 k) [] cs_u74 [.frz 2 false (RTy.list T18), .autoB [2, 3] true []] (gT h (fun c h => gN2 h fun h => gC h 35 (ih.2.2.2 _ _ _ _ _)) fun c h => gT h (fun c h => gN1 h id fun h => gL h) fun c h => gL h) (by kernel_rfl)
theorem of_u74 (k : Nat) (t_ : T17.T) (r : R_u74) (h : f_u74 k t_ = some r) : C_u74 t_ r := by
  refine CC.of (fn := Tryz.f18) (by kernel_rfl) (by kernel_rfl) (by kernel_rfl) (by kernel_rfl) ?_
  unfold f_u74 at h
  exact go (K_u74 k) [] cs_u74 [.frz 2 false (RTy.list T18), .autoB [2, 3] true []] (gN1 h (fun q => cc_u73 q) fun h => gT h (fun c h => gL h) fun c h => gN1 h (fun q => cc_u67 q) fun h => gT h (fun c h => gL h) fun c h => gT h (fun c h => gL h) fun c h => gC h 12 ((ev_u74 k t_ k).1 _ _ _ _ _)) (by kernel_rfl)
theorem cc_u74 {k : Nat} {t_ : T17.T} (h : (f_u74 k t_).isSome = true) : C_u74 t_ (v_u74 k t_) := ccG (Φ := C_u74 t_) h (of_u74 k t_)
def bs_H62_u33_0 : ByteArray := ByteArray.mk #[(48 : UInt8), (49 : UInt8), (50 : UInt8), (51 : UInt8), (52 : UInt8), (53 : UInt8), (54 : UInt8), (55 : UInt8), (56 : UInt8), (57 : UInt8), (97 : UInt8), (98 : UInt8), (99 : UInt8), (100 : UInt8), (101 : UInt8), (102 : UInt8), (103 : UInt8), (104 : UInt8), (105 : UInt8), (106 : UInt8), (107 : UInt8), (108 : UInt8), (109 : UInt8), (110 : UInt8), (111 : UInt8), (112 : UInt8), (113 : UInt8), (114 : UInt8), (115 : UInt8), (116 : UInt8), (117 : UInt8), (118 : UInt8), (119 : UInt8), (120 : UInt8), (121 : UInt8), (122 : UInt8)]
def bs_H62_u33_1 : ByteArray := ByteArray.mk #[48, 49, 50, 51, 52, 53, 54, 55, 56, 57, 97, 98, 99, 100, 101, 102, 103, 104, 105, 106, 107, 108, 109, 110, 111, 112, 113, 114, 115, 116, 117, 118, 119, 120, 121, 122]
abbrev R_u33 : Type := ByteArray
def res_u33 (r : R_u33) : AV := .r (.v (.string r))
def bo_u33 (i_ : Int) (r : R_u33) : List (Nat × Blk) := []
def args_u33 (i_ : Int) : List AV := [.r (.v (.int .i64 i_))]
def bin_u33 (i_ : Int) : List Blk := []
abbrev C_u33 (i_ : Int) (r : R_u33) : Prop := CC Tryz.prog 204 (args_u33 i_) (bin_u33 i_) (res_u33 r) (bo_u33 i_ r)
def f_u33 (k : Nat) (i_ : Int) : Option R_u33 :=
  bif (decide (i_ < (10 : Int))) then
  if ((0 : Int) ≤ i_) ∧ (i_ ≤ IntKind.i64.wrap (i_ + (1 : Int))) ∧ (IntKind.i64.wrap (i_ + (1 : Int)) ≤ (↑ bs_H62_u33_0.size : Int)) then
  some (bs_H62_u33_1.extract i_.toNat (IntKind.i64.wrap (i_ + 1)).toNat)
  else none
  else
  if ((0 : Int) ≤ IntKind.i64.wrap (i_ * (2 : Int))) ∧ (IntKind.i64.wrap (i_ * (2 : Int)) ≤ IntKind.i64.wrap (IntKind.i64.wrap (i_ * (2 : Int)) + (2 : Int))) ∧ (IntKind.i64.wrap (IntKind.i64.wrap (i_ * (2 : Int)) + (2 : Int)) ≤ (↑ (ByteArray.mk (([(48 : UInt8), (48 : UInt8), (48 : UInt8), (49 : UInt8), (48 : UInt8), (50 : UInt8), (48 : UInt8), (51 : UInt8), (48 : UInt8), (52 : UInt8), (48 : UInt8), (53 : UInt8), (48 : UInt8), (54 : UInt8), (48 : UInt8), (55 : UInt8), (48 : UInt8), (56 : UInt8), (48 : UInt8), (57 : UInt8), (49 : UInt8), (48 : UInt8), (49 : UInt8), (49 : UInt8), (49 : UInt8), (50 : UInt8), (49 : UInt8), (51 : UInt8), (49 : UInt8), (52 : UInt8), (49 : UInt8), (53 : UInt8), (49 : UInt8), (54 : UInt8), (49 : UInt8), (55 : UInt8), (49 : UInt8), (56 : UInt8), (49 : UInt8), (57 : UInt8), (50 : UInt8), (48 : UInt8), (50 : UInt8), (49 : UInt8), (50 : UInt8), (50 : UInt8), (50 : UInt8), (51 : UInt8), (50 : UInt8), (52 : UInt8)].append [(50 : UInt8), (53 : UInt8), (50 : UInt8), (54 : UInt8), (50 : UInt8), (55 : UInt8), (50 : UInt8), (56 : UInt8), (50 : UInt8), (57 : UInt8), (51 : UInt8), (48 : UInt8), (51 : UInt8), (49 : UInt8), (51 : UInt8), (50 : UInt8), (51 : UInt8), (51 : UInt8), (51 : UInt8), (52 : UInt8), (51 : UInt8), (53 : UInt8), (51 : UInt8), (54 : UInt8), (51 : UInt8), (55 : UInt8), (51 : UInt8), (56 : UInt8), (51 : UInt8), (57 : UInt8), (52 : UInt8), (48 : UInt8), (52 : UInt8), (49 : UInt8), (52 : UInt8), (50 : UInt8), (52 : UInt8), (51 : UInt8), (52 : UInt8), (52 : UInt8), (52 : UInt8), (53 : UInt8), (52 : UInt8), (54 : UInt8), (52 : UInt8), (55 : UInt8), (52 : UInt8), (56 : UInt8), (52 : UInt8), (57 : UInt8)]).append ([(53 : UInt8), (48 : UInt8), (53 : UInt8), (49 : UInt8), (53 : UInt8), (50 : UInt8), (53 : UInt8), (51 : UInt8), (53 : UInt8), (52 : UInt8), (53 : UInt8), (53 : UInt8), (53 : UInt8), (54 : UInt8), (53 : UInt8), (55 : UInt8), (53 : UInt8), (56 : UInt8), (53 : UInt8), (57 : UInt8), (54 : UInt8), (48 : UInt8), (54 : UInt8), (49 : UInt8), (54 : UInt8), (50 : UInt8), (54 : UInt8), (51 : UInt8), (54 : UInt8), (52 : UInt8), (54 : UInt8), (53 : UInt8), (54 : UInt8), (54 : UInt8), (54 : UInt8), (55 : UInt8), (54 : UInt8), (56 : UInt8), (54 : UInt8), (57 : UInt8), (55 : UInt8), (48 : UInt8), (55 : UInt8), (49 : UInt8), (55 : UInt8), (50 : UInt8), (55 : UInt8), (51 : UInt8), (55 : UInt8), (52 : UInt8)].append [(55 : UInt8), (53 : UInt8), (55 : UInt8), (54 : UInt8), (55 : UInt8), (55 : UInt8), (55 : UInt8), (56 : UInt8), (55 : UInt8), (57 : UInt8), (56 : UInt8), (48 : UInt8), (56 : UInt8), (49 : UInt8), (56 : UInt8), (50 : UInt8), (56 : UInt8), (51 : UInt8), (56 : UInt8), (52 : UInt8), (56 : UInt8), (53 : UInt8), (56 : UInt8), (54 : UInt8), (56 : UInt8), (55 : UInt8), (56 : UInt8), (56 : UInt8), (56 : UInt8), (57 : UInt8), (57 : UInt8), (48 : UInt8), (57 : UInt8), (49 : UInt8), (57 : UInt8), (50 : UInt8), (57 : UInt8), (51 : UInt8), (57 : UInt8), (52 : UInt8), (57 : UInt8), (53 : UInt8), (57 : UInt8), (54 : UInt8), (57 : UInt8), (55 : UInt8), (57 : UInt8), (56 : UInt8), (57 : UInt8), (57 : UInt8)])).toArray).size : Int)) then
  some ((ByteArray.mk (([48, 48, 48, 49, 48, 50, 48, 51, 48, 52, 48, 53, 48, 54, 48, 55, 48, 56, 48, 57, 49, 48, 49, 49, 49, 50, 49, 51, 49, 52, 49, 53, 49, 54, 49, 55, 49, 56, 49, 57, 50, 48, 50, 49, 50, 50, 50, 51, 50, 52].append [50, 53, 50, 54, 50, 55, 50, 56, 50, 57, 51, 48, 51, 49, 51, 50, 51, 51, 51, 52, 51, 53, 51, 54, 51, 55, 51, 56, 51, 57, 52, 48, 52, 49, 52, 50, 52, 51, 52, 52, 52, 53, 52, 54, 52, 55, 52, 56, 52, 57]).append ([53, 48, 53, 49, 53, 50, 53, 51, 53, 52, 53, 53, 53, 54, 53, 55, 53, 56, 53, 57, 54, 48, 54, 49, 54, 50, 54, 51, 54, 52, 54, 53, 54, 54, 54, 55, 54, 56, 54, 57, 55, 48, 55, 49, 55, 50, 55, 51, 55, 52].append [55, 53, 55, 54, 55, 55, 55, 56, 55, 57, 56, 48, 56, 49, 56, 50, 56, 51, 56, 52, 56, 53, 56, 54, 56, 55, 56, 56, 56, 57, 57, 48, 57, 49, 57, 50, 57, 51, 57, 52, 57, 53, 57, 54, 57, 55, 57, 56, 57, 57])).toArray).extract (IntKind.i64.wrap (i_ * 2)).toNat (IntKind.i64.wrap (IntKind.i64.wrap (i_ * 2) + 2)).toNat)
  else none
def v_u33 (k : Nat) (i_ : Int) : R_u33 := (f_u33 k i_).getD ByteArray.empty
def ke_u33 (k : Nat) : Ke := (204, fun xs => match xs with
  | [_] => some [false]
  | _ => none, fun xs bs => match xs, bs with
  | [.r (.v (.int .i64 i_))], [] => some (.one (res_u33 (v_u33 k i_), bo_u33 i_ (v_u33 k i_)))
  | _, _ => none)
theorem of_u33 (k : Nat) (i_ : Int) (r : R_u33) (h : f_u33 k i_ = some r) : C_u33 i_ r := by
  refine CC.of (fn := Tryz.f204) (by kernel_rfl) (by kernel_rfl) (by kernel_rfl) (by kernel_rfl) ?_
  unfold f_u33 at h
  exact go (mkK []) [] [] [.autoB [2] true []] (gT h (fun c h => gN h (fun q => conjC q.1 (conjC q.2.1 (conjC q.2.2 conj0))) fun h => gL h) fun c h => gN h (fun q => conjC q.1 (conjC q.2.1 (conjC q.2.2 conj0))) fun h => gL h) (by kernel_rfl)
theorem cc_u33 {k : Nat} {i_ : Int} (h : (f_u33 k i_).isSome = true) : C_u33 i_ (v_u33 k i_) := ccG (Φ := C_u33 i_) h (of_u33 k i_)
abbrev R_u31 : Type := ByteArray
def res_u31 (r : R_u31) : AV := .r (.v (.string r))
def bo_u31 (i_ : Int) (base_ : Int) (r : R_u31) : List (Nat × Blk) := []
def args_u31 (i_ : Int) (base_ : Int) : List AV := [.r (.v (.int .i64 i_)), .r (.v (.int .i64 base_))]
def bin_u31 (i_ : Int) (base_ : Int) : List Blk := []
abbrev C_u31 (i_ : Int) (base_ : Int) (r : R_u31) : Prop := CC Tryz.prog 161 (args_u31 i_ base_) (bin_u31 i_ base_) (res_u31 r) (bo_u31 i_ base_ r)
def f_u31 (k : Nat) (i_ : Int) (base_ : Int) : Option R_u31 :=
  bif (base_ == (10 : Int)) then
  bif (decide ((0 : Int) ≤ i_) && decide (i_ < (100 : Int))) then
  if ((f_u33 k i_).isSome = true) then
  some (v_u33 k i_)
  else none
  else
  bif (decide (i_ < (0 : Int))) then
  none
  else
  none
  else
  none
def v_u31 (k : Nat) (i_ : Int) (base_ : Int) : R_u31 := (f_u31 k i_ base_).getD ByteArray.empty
def ke_u31 (k : Nat) : Ke := (161, fun xs => match xs with
  | [_, _] => some [false, false]
  | _ => none, fun xs bs => match xs, bs with
  | [.r (.v (.int .i64 i_)), .r (.v (.int .i64 base_))], [] => some (.one (res_u31 (v_u31 k i_ base_), bo_u31 i_ base_ (v_u31 k i_ base_)))
  | _, _ => none)
theorem of_u31 (k : Nat) (i_ : Int) (base_ : Int) (r : R_u31) (h : f_u31 k i_ base_ = some r) : C_u31 i_ base_ r := by
  refine CC.of (fn := Tryz.f161) (by kernel_rfl) (by kernel_rfl) (by kernel_rfl) (by kernel_rfl) ?_
  unfold f_u31 at h
  exact go (mkK [ke_u33 k]) [] [] [.autoB [4] true []] (gT h (fun c h => gT h (fun c h => gN1 h (fun q => cc_u33 q) fun h => gL h) fun c h => gT h (fun c h => gZ h (.stuck 2001)) fun c h => gZ h (.stuck 2001)) fun c h => gZ h (.stuck 2005)) (by kernel_rfl)
theorem cc_u31 {k : Nat} {i_ : Int} {base_ : Int} (h : (f_u31 k i_ base_).isSome = true) : C_u31 i_ base_ (v_u31 k i_ base_) := ccG (Φ := C_u31 i_ base_) h (of_u31 k i_ base_)
abbrev R_u32 : Type := ByteArray
def res_u32 (r : R_u32) : AV := .r (.v (.string r))
def bo_u32 (i_ : Int) (r : R_u32) : List (Nat × Blk) := []
def args_u32 (i_ : Int) : List AV := [.r (.v (.int .i64 i_))]
def bin_u32 (i_ : Int) : List Blk := []
abbrev C_u32 (i_ : Int) (r : R_u32) : Prop := CC Tryz.prog 111 (args_u32 i_) (bin_u32 i_) (res_u32 r) (bo_u32 i_ r)
def f_u32 (k : Nat) (i_ : Int) : Option R_u32 :=
  if ((f_u31 k i_ 10).isSome = true) then
  some (v_u31 k i_ 10)
  else none
def v_u32 (k : Nat) (i_ : Int) : R_u32 := (f_u32 k i_).getD ByteArray.empty
def ke_u32 (k : Nat) : Ke := (111, fun xs => match xs with
  | [_] => some [false]
  | _ => none, fun xs bs => match xs, bs with
  | [.r (.v (.int .i64 i_))], [] => some (.one (res_u32 (v_u32 k i_), bo_u32 i_ (v_u32 k i_)))
  | _, _ => none)
theorem of_u32 (k : Nat) (i_ : Int) (r : R_u32) (h : f_u32 k i_ = some r) : C_u32 i_ r := by
  refine CC.of (fn := Tryz.f111) (by kernel_rfl) (by kernel_rfl) (by kernel_rfl) (by kernel_rfl) ?_
  unfold f_u32 at h
  exact go (mkK [ke_u31 k]) [] [] [.autoB [2] true []] (gN1 h (fun q => cc_u31 q) fun h => gL h) (by kernel_rfl)
theorem cc_u32 {k : Nat} {i_ : Int} (h : (f_u32 k i_).isSome = true) : C_u32 i_ (v_u32 k i_) := ccG (Φ := C_u32 i_) h (of_u32 k i_)
abbrev R_u100 : Type := ByteArray
def res_u100 (r : R_u100) : AV := .r (.v (.string r))
def bo_u100 (i_ : Int) (r : R_u100) : List (Nat × Blk) := []
def args_u100 (i_ : Int) : List AV := [.r (.v (.int .i64 i_))]
def bin_u100 (i_ : Int) : List Blk := []
abbrev C_u100 (i_ : Int) (r : R_u100) : Prop := CC Tryz.prog 64 (args_u100 i_) (bin_u100 i_) (res_u100 r) (bo_u100 i_ r)
def f_u100 (k : Nat) (i_ : Int) : Option R_u100 :=
  if ((f_u32 k i_).isSome = true) then
  some (v_u32 k i_)
  else none
def v_u100 (k : Nat) (i_ : Int) : R_u100 := (f_u100 k i_).getD ByteArray.empty
def ke_u100 (k : Nat) : Ke := (64, fun xs => match xs with
  | [_] => some [false]
  | _ => none, fun xs bs => match xs, bs with
  | [.r (.v (.int .i64 i_))], [] => some (.one (res_u100 (v_u100 k i_), bo_u100 i_ (v_u100 k i_)))
  | _, _ => none)
theorem of_u100 (k : Nat) (i_ : Int) (r : R_u100) (h : f_u100 k i_ = some r) : C_u100 i_ r := by
  refine CC.of (fn := Tryz.f64) (by kernel_rfl) (by kernel_rfl) (by kernel_rfl) (by kernel_rfl) ?_
  unfold f_u100 at h
  exact go (mkK [ke_u32 k]) [] [] [.autoB [2] true []] (gN1 h (fun q => cc_u32 q) fun h => gL h) (by kernel_rfl)
theorem cc_u100 {k : Nat} {i_ : Int} (h : (f_u100 k i_).isSome = true) : C_u100 i_ (v_u100 k i_) := ccG (Φ := C_u100 i_) h (of_u100 k i_)
def bs_H62_u5_0 : ByteArray := ByteArray.mk #[(115 : UInt8), (101 : UInt8), (99 : UInt8), (116 : UInt8), (105 : UInt8), (111 : UInt8), (110 : UInt8), (115 : UInt8), (58 : UInt8), (32 : UInt8), (101 : UInt8), (114 : UInt8), (114 : UInt8), (111 : UInt8), (114 : UInt8), (32 : UInt8)]
def bs_H62_u5_1 : ByteArray := ByteArray.mk #[115, 101, 99, 116, 105, 111, 110, 115, 58, 32, 101, 114, 114, 111, 114, 32]
def bs_H62_u5_2 : ByteArray := ByteArray.mk #[(32 : UInt8), (100 : UInt8), (111 : UInt8), (101 : UInt8), (115 : UInt8), (32 : UInt8), (110 : UInt8), (111 : UInt8), (116 : UInt8), (32 : UInt8), (109 : UInt8), (97 : UInt8), (116 : UInt8), (99 : UInt8), (104 : UInt8), (58 : UInt8), (32 : UInt8), (101 : UInt8), (114 : UInt8), (114 : UInt8), (111 : UInt8), (114 : UInt8), (32 : UInt8)]
def bs_H62_u5_3 : ByteArray := ByteArray.mk #[32, 100, 111, 101, 115, 32, 110, 111, 116, 32, 109, 97, 116, 99, 104, 58, 32, 101, 114, 114, 111, 114, 32]
def bs_H62_u5_4 : ByteArray := ByteArray.mk #[(116 : UInt8), (104 : UInt8), (101 : UInt8), (32 : UInt8), (97 : UInt8), (114 : UInt8), (101 : UInt8), (97 : UInt8), (32 : UInt8), (111 : UInt8), (102 : UInt8), (32 : UInt8), (116 : UInt8), (104 : UInt8), (101 : UInt8), (32 : UInt8), (119 : UInt8), (101 : UInt8), (98 : UInt8), (32 : UInt8), (105 : UInt8), (115 : UInt8), (32 : UInt8), (110 : UInt8), (111 : UInt8), (116 : UInt8), (32 : UInt8), (98 : UInt8), (97 : UInt8), (108 : UInt8), (97 : UInt8), (110 : UInt8), (99 : UInt8), (101 : UInt8), (100 : UInt8), (58 : UInt8), (32 : UInt8)]
def bs_H62_u5_5 : ByteArray := ByteArray.mk #[116, 104, 101, 32, 97, 114, 101, 97, 32, 111, 102, 32, 116, 104, 101, 32, 119, 101, 98, 32, 105, 115, 32, 110, 111, 116, 32, 98, 97, 108, 97, 110, 99, 101, 100, 58, 32]
def bs_H62_u5_6 : ByteArray := ByteArray.mk #[(115 : UInt8), (104 : UInt8), (105 : UInt8), (112 : UInt8), (112 : UInt8), (101 : UInt8), (100 : UInt8), (32 : UInt8), (114 : UInt8), (111 : UInt8), (108 : UInt8), (108 : UInt8), (32 : UInt8)]
def bs_H62_u5_7 : ByteArray := ByteArray.mk #[115, 104, 105, 112, 112, 101, 100, 32, 114, 111, 108, 108, 32]
def bs_H62_u5_8 : ByteArray := ByteArray.mk #[(32 : UInt8), (119 : UInt8), (97 : UInt8), (115 : UInt8), (32 : UInt8), (110 : UInt8), (111 : UInt8), (116 : UInt8), (32 : UInt8), (114 : UInt8), (101 : UInt8), (108 : UInt8), (101 : UInt8), (97 : UInt8), (115 : UInt8), (101 : UInt8), (100 : UInt8), (58 : UInt8), (32 : UInt8), (101 : UInt8), (114 : UInt8), (114 : UInt8), (111 : UInt8), (114 : UInt8), (32 : UInt8)]
def bs_H62_u5_9 : ByteArray := ByteArray.mk #[32, 119, 97, 115, 32, 110, 111, 116, 32, 114, 101, 108, 101, 97, 115, 101, 100, 58, 32, 101, 114, 114, 111, 114, 32]
def bs_H62_u5_10 : ByteArray := ByteArray.mk #[(116 : UInt8), (104 : UInt8), (101 : UInt8), (32 : UInt8), (99 : UInt8), (114 : UInt8), (101 : UInt8), (100 : UInt8), (105 : UInt8), (116 : UInt8), (32 : UInt8), (111 : UInt8), (102 : UInt8), (32 : UInt8), (99 : UInt8), (108 : UInt8), (97 : UInt8), (105 : UInt8), (109 : UInt8), (32 : UInt8)]
def bs_H62_u5_11 : ByteArray := ByteArray.mk #[(32 : UInt8), (115 : UInt8), (104 : UInt8), (111 : UInt8), (117 : UInt8), (108 : UInt8), (100 : UInt8), (32 : UInt8), (98 : UInt8), (101 : UInt8), (32 : UInt8)]
def bs_H62_u5_12 : ByteArray := ByteArray.mk #[116, 104, 101, 32, 99, 114, 101, 100, 105, 116, 32, 111, 102, 32, 99, 108, 97, 105, 109, 32]
def bs_H62_u5_13 : ByteArray := ByteArray.mk #[32, 115, 104, 111, 117, 108, 100, 32, 98, 101, 32]
def bs_H62_u5_14 : ByteArray := ByteArray.mk #[(32 : UInt8), (99 : UInt8), (97 : UInt8), (110 : UInt8), (110 : UInt8), (111 : UInt8), (116 : UInt8), (32 : UInt8), (98 : UInt8), (101 : UInt8), (32 : UInt8), (115 : UInt8), (101 : UInt8), (116 : UInt8), (116 : UInt8), (108 : UInt8), (101 : UInt8), (100 : UInt8), (58 : UInt8), (32 : UInt8), (101 : UInt8), (114 : UInt8), (114 : UInt8), (111 : UInt8), (114 : UInt8), (32 : UInt8)]
def bs_H62_u5_15 : ByteArray := ByteArray.mk #[32, 99, 97, 110, 110, 111, 116, 32, 98, 101, 32, 115, 101, 116, 116, 108, 101, 100, 58, 32, 101, 114, 114, 111, 114, 32]
def bs_H62_u5_16 : ByteArray := ByteArray.mk #[(98 : UInt8), (114 : UInt8), (111 : UInt8), (107 : UInt8), (101 : UInt8), (58 : UInt8), (32 : UInt8), (101 : UInt8), (114 : UInt8), (114 : UInt8), (111 : UInt8), (114 : UInt8), (32 : UInt8)]
def bs_H62_u5_17 : ByteArray := ByteArray.mk #[98, 114, 111, 107, 101, 58, 32, 101, 114, 114, 111, 114, 32]
def bs_H62_u5_18 : ByteArray := ByteArray.mk #[(32 : UInt8), (105 : UInt8), (115 : UInt8), (32 : UInt8), (114 : UInt8), (101 : UInt8), (112 : UInt8), (101 : UInt8), (97 : UInt8), (116 : UInt8), (101 : UInt8), (100 : UInt8)]
def bs_H62_u5_19 : ByteArray := ByteArray.mk #[32, 105, 115, 32, 114, 101, 112, 101, 97, 116, 101, 100]
abbrev R_u5 : Type := ByteArray × Int
def res_u5 (r : R_u5) : AV := .tup [.r (.v (.string r.1)), .r (.v (.int .i64 r.2))]
def bo_u5 (f_ : T18.T) (r : R_u5) : List (Nat × Blk) := []
def args_u5 (f_ : T18.T) : List AV := [.agg (rvs (enc T18 f_))]
def bin_u5 (f_ : T18.T) : List Blk := []
abbrev C_u5 (f_ : T18.T) (r : R_u5) : Prop := CC Tryz.prog 25 (args_u5 f_) (bin_u5 f_) (res_u5 r) (bo_u5 f_ r)
def f_u5 (k : Nat) (f_ : T18.T) : Option R_u5 :=
  if ((f_u100 k f_.2.1).isSome = true) ∧ ((f_u100 k f_.2.2).isSome = true) then
  bif (f_.1 == (1 : Int)) then
  if ((↑ (bs_H62_u5_0.size + ByteArray.size (v_u100 k f_.2.1)) : Int) ≤ IntKind.i64.max) ∧ ((↑ ((bs_H62_u5_0 ++ v_u100 k f_.2.1).size + (ByteArray.mk #[(44 : UInt8), (32 : UInt8), (101 : UInt8), (110 : UInt8), (100 : UInt8), (32 : UInt8)]).size) : Int) ≤ IntKind.i64.max) ∧ ((↑ ((bs_H62_u5_0 ++ v_u100 k f_.2.1 ++ (ByteArray.mk #[(44 : UInt8), (32 : UInt8), (101 : UInt8), (110 : UInt8), (100 : UInt8), (32 : UInt8)])).size + ByteArray.size (v_u100 k f_.2.2)) : Int) ≤ IntKind.i64.max) then
  some ((bs_H62_u5_1 ++ v_u100 k f_.2.1 ++ (ByteArray.mk #[44, 32, 101, 110, 100, 32]) ++ v_u100 k f_.2.2, 0))
  else none
  else
  bif (f_.1 == (2 : Int)) then
  if ((↑ ((ByteArray.mk #[(114 : UInt8), (101 : UInt8), (101 : UInt8), (108 : UInt8), (32 : UInt8)]).size + ByteArray.size (v_u100 k f_.2.1)) : Int) ≤ IntKind.i64.max) ∧ ((↑ (((ByteArray.mk #[(114 : UInt8), (101 : UInt8), (101 : UInt8), (108 : UInt8), (32 : UInt8)]) ++ v_u100 k f_.2.1).size + bs_H62_u5_2.size) : Int) ≤ IntKind.i64.max) ∧ ((↑ (((ByteArray.mk #[(114 : UInt8), (101 : UInt8), (101 : UInt8), (108 : UInt8), (32 : UInt8)]) ++ v_u100 k f_.2.1 ++ bs_H62_u5_2).size + ByteArray.size (v_u100 k f_.2.2)) : Int) ≤ IntKind.i64.max) then
  some (((ByteArray.mk #[114, 101, 101, 108, 32]) ++ v_u100 k f_.2.1 ++ bs_H62_u5_3 ++ v_u100 k f_.2.2, 0))
  else none
  else
  bif (f_.1 == (3 : Int)) then
  if ((↑ ((ByteArray.mk #[(114 : UInt8), (111 : UInt8), (108 : UInt8), (108 : UInt8), (32 : UInt8)]).size + ByteArray.size (v_u100 k f_.2.1)) : Int) ≤ IntKind.i64.max) ∧ ((↑ (((ByteArray.mk #[(114 : UInt8), (111 : UInt8), (108 : UInt8), (108 : UInt8), (32 : UInt8)]) ++ v_u100 k f_.2.1).size + (ByteArray.mk #[(58 : UInt8), (32 : UInt8), (101 : UInt8), (114 : UInt8), (114 : UInt8), (111 : UInt8), (114 : UInt8), (32 : UInt8)]).size) : Int) ≤ IntKind.i64.max) ∧ ((↑ (((ByteArray.mk #[(114 : UInt8), (111 : UInt8), (108 : UInt8), (108 : UInt8), (32 : UInt8)]) ++ v_u100 k f_.2.1 ++ (ByteArray.mk #[(58 : UInt8), (32 : UInt8), (101 : UInt8), (114 : UInt8), (114 : UInt8), (111 : UInt8), (114 : UInt8), (32 : UInt8)])).size + ByteArray.size (v_u100 k f_.2.2)) : Int) ≤ IntKind.i64.max) then
  some (((ByteArray.mk #[114, 111, 108, 108, 32]) ++ v_u100 k f_.2.1 ++ (ByteArray.mk #[58, 32, 101, 114, 114, 111, 114, 32]) ++ v_u100 k f_.2.2, 0))
  else none
  else
  bif (f_.1 == (4 : Int)) then
  if ((↑ (bs_H62_u5_4.size + ByteArray.size (v_u100 k f_.2.1)) : Int) ≤ IntKind.i64.max) then
  some ((bs_H62_u5_5 ++ v_u100 k f_.2.1, 0))
  else none
  else
  bif (f_.1 == (5 : Int)) then
  if ((↑ ((ByteArray.mk #[(111 : UInt8), (114 : UInt8), (100 : UInt8), (101 : UInt8), (114 : UInt8), (32 : UInt8)]).size + ByteArray.size (v_u100 k f_.2.1)) : Int) ≤ IntKind.i64.max) ∧ ((↑ (((ByteArray.mk #[(111 : UInt8), (114 : UInt8), (100 : UInt8), (101 : UInt8), (114 : UInt8), (32 : UInt8)]) ++ v_u100 k f_.2.1).size + (ByteArray.mk #[(58 : UInt8), (32 : UInt8), (101 : UInt8), (114 : UInt8), (114 : UInt8), (111 : UInt8), (114 : UInt8), (32 : UInt8)]).size) : Int) ≤ IntKind.i64.max) ∧ ((↑ (((ByteArray.mk #[(111 : UInt8), (114 : UInt8), (100 : UInt8), (101 : UInt8), (114 : UInt8), (32 : UInt8)]) ++ v_u100 k f_.2.1 ++ (ByteArray.mk #[(58 : UInt8), (32 : UInt8), (101 : UInt8), (114 : UInt8), (114 : UInt8), (111 : UInt8), (114 : UInt8), (32 : UInt8)])).size + ByteArray.size (v_u100 k f_.2.2)) : Int) ≤ IntKind.i64.max) then
  some (((ByteArray.mk #[111, 114, 100, 101, 114, 32]) ++ v_u100 k f_.2.1 ++ (ByteArray.mk #[58, 32, 101, 114, 114, 111, 114, 32]) ++ v_u100 k f_.2.2, 0))
  else none
  else
  bif (f_.1 == (6 : Int)) then
  if ((↑ (bs_H62_u5_6.size + ByteArray.size (v_u100 k f_.2.1)) : Int) ≤ IntKind.i64.max) ∧ ((↑ ((bs_H62_u5_6 ++ v_u100 k f_.2.1).size + (ByteArray.mk #[(58 : UInt8), (32 : UInt8), (101 : UInt8), (114 : UInt8), (114 : UInt8), (111 : UInt8), (114 : UInt8), (32 : UInt8)]).size) : Int) ≤ IntKind.i64.max) ∧ ((↑ ((bs_H62_u5_6 ++ v_u100 k f_.2.1 ++ (ByteArray.mk #[(58 : UInt8), (32 : UInt8), (101 : UInt8), (114 : UInt8), (114 : UInt8), (111 : UInt8), (114 : UInt8), (32 : UInt8)])).size + ByteArray.size (v_u100 k f_.2.2)) : Int) ≤ IntKind.i64.max) then
  some ((bs_H62_u5_7 ++ v_u100 k f_.2.1 ++ (ByteArray.mk #[58, 32, 101, 114, 114, 111, 114, 32]) ++ v_u100 k f_.2.2, 0))
  else none
  else
  bif (f_.1 == (7 : Int)) then
  if ((↑ ((ByteArray.mk #[(114 : UInt8), (111 : UInt8), (108 : UInt8), (108 : UInt8), (32 : UInt8)]).size + ByteArray.size (v_u100 k f_.2.1)) : Int) ≤ IntKind.i64.max) ∧ ((↑ (((ByteArray.mk #[(114 : UInt8), (111 : UInt8), (108 : UInt8), (108 : UInt8), (32 : UInt8)]) ++ v_u100 k f_.2.1).size + bs_H62_u5_8.size) : Int) ≤ IntKind.i64.max) ∧ ((↑ (((ByteArray.mk #[(114 : UInt8), (111 : UInt8), (108 : UInt8), (108 : UInt8), (32 : UInt8)]) ++ v_u100 k f_.2.1 ++ bs_H62_u5_8).size + ByteArray.size (v_u100 k f_.2.2)) : Int) ≤ IntKind.i64.max) then
  some (((ByteArray.mk #[114, 111, 108, 108, 32]) ++ v_u100 k f_.2.1 ++ bs_H62_u5_9 ++ v_u100 k f_.2.2, 0))
  else none
  else
  bif (f_.1 == (8 : Int)) then
  if ((↑ (bs_H62_u5_10.size + ByteArray.size (v_u100 k f_.2.1)) : Int) ≤ IntKind.i64.max) ∧ ((↑ ((bs_H62_u5_10 ++ v_u100 k f_.2.1).size + bs_H62_u5_11.size) : Int) ≤ IntKind.i64.max) ∧ ((↑ ((bs_H62_u5_10 ++ v_u100 k f_.2.1 ++ bs_H62_u5_11).size + ByteArray.size (v_u100 k f_.2.2)) : Int) ≤ IntKind.i64.max) then
  some ((bs_H62_u5_12 ++ v_u100 k f_.2.1 ++ bs_H62_u5_13 ++ v_u100 k f_.2.2, 0))
  else none
  else
  bif (f_.1 == (9 : Int)) then
  if ((↑ ((ByteArray.mk #[(99 : UInt8), (108 : UInt8), (97 : UInt8), (105 : UInt8), (109 : UInt8), (32 : UInt8)]).size + ByteArray.size (v_u100 k f_.2.1)) : Int) ≤ IntKind.i64.max) ∧ ((↑ (((ByteArray.mk #[(99 : UInt8), (108 : UInt8), (97 : UInt8), (105 : UInt8), (109 : UInt8), (32 : UInt8)]) ++ v_u100 k f_.2.1).size + bs_H62_u5_14.size) : Int) ≤ IntKind.i64.max) ∧ ((↑ (((ByteArray.mk #[(99 : UInt8), (108 : UInt8), (97 : UInt8), (105 : UInt8), (109 : UInt8), (32 : UInt8)]) ++ v_u100 k f_.2.1 ++ bs_H62_u5_14).size + ByteArray.size (v_u100 k f_.2.2)) : Int) ≤ IntKind.i64.max) then
  some (((ByteArray.mk #[99, 108, 97, 105, 109, 32]) ++ v_u100 k f_.2.1 ++ bs_H62_u5_15 ++ v_u100 k f_.2.2, 0))
  else none
  else
  bif (f_.1 == (10 : Int)) then
  if ((↑ (bs_H62_u5_16.size + ByteArray.size (v_u100 k f_.2.1)) : Int) ≤ IntKind.i64.max) then
  some ((bs_H62_u5_17 ++ v_u100 k f_.2.1, 0))
  else none
  else
  bif (f_.1 == (11 : Int)) then
  if ((↑ ((ByteArray.mk #[(112 : UInt8), (111 : UInt8), (115 : UInt8), (116 : UInt8), (105 : UInt8), (110 : UInt8), (103 : UInt8), (32 : UInt8)]).size + ByteArray.size (v_u100 k f_.2.1)) : Int) ≤ IntKind.i64.max) ∧ ((↑ (((ByteArray.mk #[(112 : UInt8), (111 : UInt8), (115 : UInt8), (116 : UInt8), (105 : UInt8), (110 : UInt8), (103 : UInt8), (32 : UInt8)]) ++ v_u100 k f_.2.1).size + (ByteArray.mk #[(58 : UInt8), (32 : UInt8), (101 : UInt8), (114 : UInt8), (114 : UInt8), (111 : UInt8), (114 : UInt8), (32 : UInt8)]).size) : Int) ≤ IntKind.i64.max) ∧ ((↑ (((ByteArray.mk #[(112 : UInt8), (111 : UInt8), (115 : UInt8), (116 : UInt8), (105 : UInt8), (110 : UInt8), (103 : UInt8), (32 : UInt8)]) ++ v_u100 k f_.2.1 ++ (ByteArray.mk #[(58 : UInt8), (32 : UInt8), (101 : UInt8), (114 : UInt8), (114 : UInt8), (111 : UInt8), (114 : UInt8), (32 : UInt8)])).size + ByteArray.size (v_u100 k f_.2.2)) : Int) ≤ IntKind.i64.max) then
  some (((ByteArray.mk #[112, 111, 115, 116, 105, 110, 103, 32]) ++ v_u100 k f_.2.1 ++ (ByteArray.mk #[58, 32, 101, 114, 114, 111, 114, 32]) ++ v_u100 k f_.2.2, 0))
  else none
  else
  bif (f_.1 == (12 : Int)) then
  if ((↑ ((ByteArray.mk #[(112 : UInt8), (111 : UInt8), (115 : UInt8), (116 : UInt8), (105 : UInt8), (110 : UInt8), (103 : UInt8), (32 : UInt8)]).size + ByteArray.size (v_u100 k f_.2.1)) : Int) ≤ IntKind.i64.max) ∧ ((↑ (((ByteArray.mk #[(112 : UInt8), (111 : UInt8), (115 : UInt8), (116 : UInt8), (105 : UInt8), (110 : UInt8), (103 : UInt8), (32 : UInt8)]) ++ v_u100 k f_.2.1).size + bs_H62_u5_18.size) : Int) ≤ IntKind.i64.max) then
  some (((ByteArray.mk #[112, 111, 115, 116, 105, 110, 103, 32]) ++ v_u100 k f_.2.1 ++ bs_H62_u5_19, 0))
  else none
  else
  some ((ByteArray.mk #[], 17))
  else none
def v_u5 (k : Nat) (f_ : T18.T) : R_u5 := (f_u5 k f_).getD (ByteArray.empty, 0)
def ke_u5 (k : Nat) : Ke := (25, fun xs => match xs with
  | [_] => some [false]
  | _ => none, fun xs bs => match xs, bs with
  | [.agg qf_], [] => (decS [] T18 qf_).bind fun f_ => some (.one (res_u5 (v_u5 k f_), bo_u5 f_ (v_u5 k f_)))
  | _, _ => none)
theorem of_u5 (k : Nat) (f_ : T18.T) (r : R_u5) (h : f_u5 k f_ = some r) : C_u5 f_ r := by
  refine CC.of (fn := Tryz.f25) (by kernel_rfl) (by kernel_rfl) (by kernel_rfl) (by kernel_rfl) ?_
  unfold f_u5 at h
  exact go (mkK [ke_u100 k]) [] [] [.autoB [2, 3] true []] (gN h (fun q => conjC (cc_u100 q.1) (conjC (cc_u100 q.2) conj0)) fun h => gT h (fun c h => gN h (fun q => conjC q.1 (conjC q.2.1 (conjC q.2.2 conj0))) fun h => gL h) fun c h => gT h (fun c h => gN h (fun q => conjC q.1 (conjC q.2.1 (conjC q.2.2 conj0))) fun h => gL h) fun c h => gT h (fun c h => gN h (fun q => conjC q.1 (conjC q.2.1 (conjC q.2.2 conj0))) fun h => gL h) fun c h => gT h (fun c h => gN1 h id fun h => gL h) fun c h => gT h (fun c h => gN h (fun q => conjC q.1 (conjC q.2.1 (conjC q.2.2 conj0))) fun h => gL h) fun c h => gT h (fun c h => gN h (fun q => conjC q.1 (conjC q.2.1 (conjC q.2.2 conj0))) fun h => gL h) fun c h => gT h (fun c h => gN h (fun q => conjC q.1 (conjC q.2.1 (conjC q.2.2 conj0))) fun h => gL h) fun c h => gT h (fun c h => gN h (fun q => conjC q.1 (conjC q.2.1 (conjC q.2.2 conj0))) fun h => gL h) fun c h => gT h (fun c h => gN h (fun q => conjC q.1 (conjC q.2.1 (conjC q.2.2 conj0))) fun h => gL h) fun c h => gT h (fun c h => gN1 h id fun h => gL h) fun c h => gT h (fun c h => gN h (fun q => conjC q.1 (conjC q.2.1 (conjC q.2.2 conj0))) fun h => gL h) fun c h => gT h (fun c h => gN2 h fun h => gL h) fun c h => gL h) (by kernel_rfl)
theorem cc_u5 {k : Nat} {f_ : T18.T} (h : (f_u5 k f_).isSome = true) : C_u5 f_ (v_u5 k f_) := ccG (Φ := C_u5 f_) h (of_u5 k f_)
abbrev R_u87 : Type := Int
def res_u87 (r : R_u87) : AV := .r (.v (.int .i64 r))
def bo_u87 (l_ : List (T11).T) (r : R_u87) : List (Nat × Blk) := []
def args_u87 (l_ : List (T11).T) : List AV := [.r (.ro T11 l_)]
def bin_u87 (l_ : List (T11).T) : List Blk := []
abbrev C_u87 (l_ : List (T11).T) (r : R_u87) : Prop := CC Tryz.prog 130 (args_u87 l_) (bin_u87 l_) (res_u87 r) (bo_u87 l_ r)
def st_u87_4 (y0 : List (T11).T) (y1 : List (T11).T) (y2 : Int) (y3 : Int) : St := ⟨mkS 84 [(0, .r (.ro T11 y0)), (18, .r (.ro T11 y1)), (19, .r (.v (.int .i64 y2))), (20, .r (.v (.int .i64 y3)))], []⟩
def st_u87_12 (y0 : List (T11).T) (y1 : List (T11).T) (y2 : Int) (y3 : Int) (y4 : List ((I).T × (RTy.bool).T)) (y5 : List ((I).T × (RTy.bool).T)) : St := ⟨mkS 84 [(0, .r (.ro T11 y0)), (6, .own 1000000 0), (7, .own 1000001 0), (32, .r (.ro T11 y1)), (33, .r (.v (.int .i64 y2))), (34, .r (.v (.int .i64 y3)))], [(1000000, 0, .map false I RTy.bool y4), (1000001, 0, .map false I RTy.bool y5)]⟩
def st_u87_19 (y0 : List (T11).T) (y1 : Int) (y2 : List ((I).T × (RTy.bool).T)) : St := ⟨mkS 84 [(0, .r (.ro T11 y0)), (7, .own 1000000 0), (10, .r (.v (.int .i64 y1)))], [(1000000, 0, .map false I RTy.bool y2)]⟩
def st_u87_24 (y0 : List (T11).T) (y1 : Int) (y2 : Int) (y3 : List ((I).T × (RTy.bool).T)) : St := ⟨mkS 84 [(7, .own 1000000 0), (64, .r (.ro T11 y0)), (65, .r (.v (.int .i64 y1))), (66, .r (.v (.int .i64 y2)))], [(1000000, 0, .map false I RTy.bool y3)]⟩
def st_u87_27 (y0 : List (T11).T) (y1 : Int) (y2 : Int) (y3 : List (I).T) (y4 : Int) (y5 : Int) (y6 : List ((I).T × (RTy.bool).T)) : St := ⟨mkS 84 [(7, .own 1000000 0), (64, .r (.ro T11 y0)), (65, .r (.v (.int .i64 y1))), (66, .r (.v (.int .i64 y2))), (71, .r (.ro I y3)), (72, .r (.v (.int .i64 y4))), (73, .r (.v (.int .i64 y5)))], [(1000000, 0, .map false I RTy.bool y6)]⟩
mutual
def f_u87_4 (k : Nat) : Nat → List (T11).T → List (T11).T → Int → Int → Option R_u87
  | 0, _, _, _, _ => none
  | j + 1, y0, y1, y2, y3 =>
  bif (decide (y3 < y2)) then
  if (0 ≤ y3) ∧ (y3 < (↑y1.length : Int)) then
  none
  else none
  else
  f_u87_12 k j y0 y0 ((↑y0.length : Int)) 0 ([]) ([])
def f_u87_12 (k : Nat) : Nat → List (T11).T → List (T11).T → Int → Int → (List ((I).T × (RTy.bool).T)) → (List ((I).T × (RTy.bool).T)) → Option R_u87
  | 0, _, _, _, _, _, _ => none
  | j + 1, y0, y1, y2, y3, y4, y5 =>
  bif (decide (y3 < y2)) then
  if (0 ≤ y3) ∧ (y3 < (↑y1.length : Int)) then
  bif ((mget I (y1.getD y3.toNat T11.dflt).1 y4).getD false) then
  some 6
  else
  f_u87_12 k j y0 y1 y2 ((IntKind.i64.wrap (y3 + 1))) ((mset I (y1.getD y3.toNat T11.dflt).1 true y4)) y5
  else none
  else
  f_u87_19 k j y0 1 y5
def f_u87_19 (k : Nat) : Nat → List (T11).T → Int → (List ((I).T × (RTy.bool).T)) → Option R_u87
  | 0, _, _, _ => none
  | j + 1, y0, y1, y2 =>
  bif (decide (y1 < (↑y0.length : Int))) then
  if (0 ≤ y1) ∧ (y1 < (↑y0.length : Int)) ∧ ((0 : Int) ≤ IntKind.i64.wrap (y1 - (1 : Int))) ∧ (IntKind.i64.wrap (y1 - (1 : Int)) < (↑y0.length : Int)) then
  bif (decide ((y0.getD y1.toNat T11.dflt).2.1 < (y0.getD (IntKind.i64.wrap (y1 - (1 : Int))).toNat T11.dflt).2.1)) then
  some 9
  else
  f_u87_19 k j y0 ((IntKind.i64.wrap (y1 + 1))) y2
  else none
  else
  f_u87_24 k j y0 ((↑y0.length : Int)) 0 y2
def f_u87_24 (k : Nat) : Nat → List (T11).T → Int → Int → (List ((I).T × (RTy.bool).T)) → Option R_u87
  | 0, _, _, _, _ => none
  | j + 1, y0, y1, y2, y3 =>
  bif (decide (y2 < y1)) then
  if (0 ≤ y2) ∧ (y2 < (↑y0.length : Int)) then
  f_u87_27 k j y0 y1 y2 ((y0.getD y2.toNat T11.dflt).2.2) ((↑ (List.length (y0.getD y2.toNat T11.dflt).2.2) : Int)) 0 y3
  else none
  else
  some 0
def f_u87_27 (k : Nat) : Nat → List (T11).T → Int → Int → List (I).T → Int → Int → (List ((I).T × (RTy.bool).T)) → Option R_u87
  | 0, _, _, _, _, _, _, _ => none
  | j + 1, y0, y1, y2, y3, y4, y5, y6 =>
  bif (decide (y5 < y4)) then
  if (0 ≤ y5) ∧ (y5 < (↑y3.length : Int)) then
  bif ((mget I (y3.getD y5.toNat I.dflt) y6).getD false) then
  some 34
  else
  f_u87_27 k j y0 y1 y2 y3 y4 ((IntKind.i64.wrap (y5 + 1))) ((mset I (y3.getD y5.toNat I.dflt) true y6))
  else none
  else
  f_u87_24 k j y0 y1 ((IntKind.i64.wrap (y2 + 1))) y6
end
def f_u87 (k : Nat) (l_ : List (T11).T) : Option R_u87 :=
  bif (decide ((↑l_.length : Int) > (512 : Int))) then
  some 8
  else
  f_u87_4 k k l_ l_ ((↑l_.length : Int)) 0
def v_u87 (k : Nat) (l_ : List (T11).T) : R_u87 := (f_u87 k l_).getD 0
def ke_u87 (k : Nat) : Ke := (130, fun xs => match xs with
  | [_] => some [false]
  | _ => none, fun xs bs => match xs, bs with
  | [.r (.ro tl__ ql_)], [] => (castL tl__ T11 ql_).bind fun l_ => some (.one (res_u87 (v_u87 k l_), bo_u87 l_ (v_u87 k l_)))
  | _, _ => none)
def cs_u87 : List (Nat × List Cmd) := [(4, [.autoB [0, 18, 19, 20] false []]), (12, [.autoB [0, 6, 7, 32, 33, 34] false []]), (19, [.autoB [0, 7, 10] false []]), (24, [.autoB [7, 64, 65, 66] false []]), (27, [.autoB [7, 64, 65, 66, 71, 72, 73] false []])]
abbrev E_u87 (l_ : List (T11).T) (todo : List Item) (st : St) (o : Option R_u87) : Prop := ∀ r, o = some r → Ev Tryz.prog Tryz.f130 0 todo st (res_u87 r) (bo_u87 l_ r)
theorem ev_u87 (k : Nat) (l_ : List (T11).T) : ∀ j, (∀ (y0 : List (T11).T) (y1 : List (T11).T) (y2 : Int) (y3 : Int), E_u87 l_ (placeAt Tryz.f130 4) (st_u87_4 y0 y1 y2 y3) (f_u87_4 k j y0 y1 y2 y3)) ∧ (∀ (y0 : List (T11).T) (y1 : List (T11).T) (y2 : Int) (y3 : Int) (y4 : List ((I).T × (RTy.bool).T)) (y5 : List ((I).T × (RTy.bool).T)), E_u87 l_ (placeAt Tryz.f130 12) (st_u87_12 y0 y1 y2 y3 y4 y5) (f_u87_12 k j y0 y1 y2 y3 y4 y5)) ∧ (∀ (y0 : List (T11).T) (y1 : Int) (y2 : List ((I).T × (RTy.bool).T)), E_u87 l_ (placeAt Tryz.f130 19) (st_u87_19 y0 y1 y2) (f_u87_19 k j y0 y1 y2)) ∧ (∀ (y0 : List (T11).T) (y1 : Int) (y2 : Int) (y3 : List ((I).T × (RTy.bool).T)), E_u87 l_ (placeAt Tryz.f130 24) (st_u87_24 y0 y1 y2 y3) (f_u87_24 k j y0 y1 y2 y3)) ∧ (∀ (y0 : List (T11).T) (y1 : Int) (y2 : Int) (y3 : List (I).T) (y4 : Int) (y5 : Int) (y6 : List ((I).T × (RTy.bool).T)), E_u87 l_ (placeAt Tryz.f130 27) (st_u87_27 y0 y1 y2 y3 y4 y5 y6) (f_u87_27 k j y0 y1 y2 y3 y4 y5 y6))
  | 0 => ⟨fun _ _ _ _ _ h => (nomatch h), fun _ _ _ _ _ _ _ h => (nomatch h), fun _ _ _ _ h => (nomatch h), fun _ _ _ _ _ h => (nomatch h), fun _ _ _ _ _ _ _ _ h => (nomatch h)⟩
  | j + 1 => by
    have ih := @ev_u87 k l_ j
    refine ⟨?_, ?_, ?_, ?_, ?_⟩
    · intro y0 y1 y2 y3 r h
      rw [f_u87_4] at h
      exact go (mkK []) [] cs_u87 [.autoB [2] true []] (gT h (fun c h => gN2 h fun h => gZ h (.stuck 2001)) fun c h => gC h 12 (ih.2.1 _ _ _ _ _ _ _)) (by kernel_rfl)
    · intro y0 y1 y2 y3 y4 y5 r h
      rw [f_u87_12] at h
      exact go (mkK []) [] cs_u87 [.autoB [2] true []] (gT h (fun c h => gN2 h fun h => gT h (fun c h => gL h) fun c h => gC h 12 (ih.2.1 _ _ _ _ _ _ _)) fun c h => gC h 19 (ih.2.2.1 _ _ _ _)) (by kernel_rfl)
    · intro y0 y1 y2 r h
      rw [f_u87_19] at h
      exact go (mkK []) [] cs_u87 [.autoB [2] true []] (gT h (fun c h => gN h (fun q => conjC q.1 (conjC q.2.1 (conjC q.2.2.1 (conjC q.2.2.2 conj0)))) fun h => gT h (fun c h => gL h) fun c h => gC h 19 (ih.2.2.1 _ _ _ _)) fun c h => gC h 24 (ih.2.2.2.1 _ _ _ _ _)) (by kernel_rfl)
    · intro y0 y1 y2 y3 r h
      rw [f_u87_24] at h
      exact go (mkK []) [] cs_u87 [.autoB [2] true []] (gT h (fun c h => gN2 h fun h => gC h 27 (ih.2.2.2.2 _ _ _ _ _ _ _ _)) fun c h => gL h) (by kernel_rfl)
    · intro y0 y1 y2 y3 y4 y5 y6 r h
      rw [f_u87_27] at h
      exact go (mkK []) [] cs_u87 [.autoB [2] true []] (gT h (fun c h => gN2 h fun h => gT h (fun c h => gL h) fun c h => gC h 27 (ih.2.2.2.2 _ _ _ _ _ _ _ _)) fun c h => gC h 24 (ih.2.2.2.1 _ _ _ _ _)) (by kernel_rfl)
theorem of_u87 (k : Nat) (l_ : List (T11).T) (r : R_u87) (h : f_u87 k l_ = some r) : C_u87 l_ r := by
  refine CC.of (fn := Tryz.f130) (by kernel_rfl) (by kernel_rfl) (by kernel_rfl) (by kernel_rfl) ?_
  unfold f_u87 at h
  exact go (mkK []) [] cs_u87 [.autoB [2] true []] (gT h (fun c h => gL h) fun c h => gC h 4 ((ev_u87 k l_ k).1 _ _ _ _ _)) (by kernel_rfl)
theorem cc_u87 {k : Nat} {l_ : List (T11).T} (h : (f_u87 k l_).isSome = true) : C_u87 l_ (v_u87 k l_) := ccG (Φ := C_u87 l_) h (of_u87 k l_)
abbrev R_u15 : Type := T17.T × List (T18).T
def res_u15 (r : R_u15) : AV := .tup []
def bo_u15 (b_ : T17.T) (b_22 : List (T18).T) (r : R_u15) : List (Nat × Blk) := [(0, .var 140 ((rvs (enc T17 r.1)) ++ [.own 1 1])), (1, .row 54 T18 r.2)]
def args_u15 (b_ : T17.T) (b_22 : List (T18).T) : List AV := [.ptr 0 0 0]
def bin_u15 (b_ : T17.T) (b_22 : List (T18).T) : List Blk := [.var 140 (rvs (enc T17 b_) ++ [.own 1 0]), .row 54 T18 b_22]
abbrev C_u15 (b_ : T17.T) (b_22 : List (T18).T) (r : R_u15) : Prop := CC Tryz.prog 90 (args_u15 b_ b_22) (bin_u15 b_ b_22) (res_u15 r) (bo_u15 b_ b_22 r)
def st_u15_5 (b_ : T17.T) (b_22 : List (T18).T) (y0 : List (T11).T) (y1 : Int) (y2 : Int) (y3 : T17.T) (y4 : List (T18).T) : St := ⟨mkS 111 [(0, .ptr 0 0 0), (3, .r (.v (Value.slice none 0 0))), (31, .r (.ro T11 y0)), (32, .r (.v (.int .i64 y1))), (33, .r (.v (.int .i64 y2)))], [(0, 0, .var 140 ((rvs (enc T17 y3)) ++ [.own 1 1])), (1, 1, .row 54 T18 y4)]⟩
def st_u15_8 (b_ : T17.T) (b_22 : List (T18).T) (y0 : List (T11).T) (y1 : Int) (y2 : Int) (y3 : List (I).T) (y4 : Int) (y5 : Int) (y6 : T17.T) (y7 : List (T18).T) : St := ⟨mkS 111 [(0, .ptr 0 0 0), (3, .r (.v (Value.slice none 0 0))), (31, .r (.ro T11 y0)), (32, .r (.v (.int .i64 y1))), (33, .r (.v (.int .i64 y2))), (38, .r (.ro I y3)), (39, .r (.v (.int .i64 y4))), (40, .r (.v (.int .i64 y5)))], [(0, 0, .var 140 ((rvs (enc T17 y6)) ++ [.own 1 1])), (1, 1, .row 54 T18 y7)]⟩
def st_u15_22 (b_ : T17.T) (b_22 : List (T18).T) (y0 : List (T9).T) (y1 : Int) (y2 : Int) (y3 : T17.T) (y4 : List (T18).T) : St := ⟨mkS 111 [(0, .ptr 0 0 0), (3, .r (.v (Value.slice none 0 0))), (89, .r (.ro T9 y0)), (90, .r (.v (.int .i64 y1))), (91, .r (.v (.int .i64 y2)))], [(0, 0, .var 140 ((rvs (enc T17 y3)) ++ [.own 1 1])), (1, 1, .row 54 T18 y4)]⟩
def st_u15_25 (b_ : T17.T) (b_22 : List (T18).T) (y0 : List (T9).T) (y1 : Int) (y2 : Int) (y3 : List (I).T) (y4 : Int) (y5 : Int) (y6 : T17.T) (y7 : List (T18).T) : St := ⟨mkS 111 [(0, .ptr 0 0 0), (3, .r (.v (Value.slice none 0 0))), (89, .r (.ro T9 y0)), (90, .r (.v (.int .i64 y1))), (91, .r (.v (.int .i64 y2))), (96, .r (.ro I y3)), (97, .r (.v (.int .i64 y4))), (98, .r (.v (.int .i64 y5)))], [(0, 0, .var 140 ((rvs (enc T17 y6)) ++ [.own 1 1])), (1, 1, .row 54 T18 y7)]⟩
mutual
def f_u15_5 (k : Nat) (b_ : T17.T) (b_22 : List (T18).T) : Nat → List (T11).T → Int → Int → T17.T → List (T18).T → Option R_u15
  | 0, _, _, _, _, _ => none
  | j + 1, y0, y1, y2, y3, y4 =>
  bif (decide (y2 < y1)) then
  if (0 ≤ y2) ∧ (y2 < (↑y0.length : Int)) then
  f_u15_8 k b_ b_22 j y0 y1 y2 ((y0.getD y2.toNat T11.dflt).2.2) ((↑ (List.length (y0.getD y2.toNat T11.dflt).2.2) : Int)) 0 y3 y4
  else none
  else
  f_u15_22 k b_ b_22 j y3.2.2.2.2.2.2.2.2.2.2.2.2.2.2.2.1 ((↑ (List.length y3.2.2.2.2.2.2.2.2.2.2.2.2.2.2.2.1) : Int)) 0 y3 y4
def f_u15_8 (k : Nat) (b_ : T17.T) (b_22 : List (T18).T) : Nat → List (T11).T → Int → Int → List (I).T → Int → Int → T17.T → List (T18).T → Option R_u15
  | 0, _, _, _, _, _, _, _, _ => none
  | j + 1, y0, y1, y2, y3, y4, y5, y6, y7 =>
  bif (decide (y5 < y4)) then
  if (0 ≤ y5) ∧ (y5 < (↑y3.length : Int)) then
  if ([y3.getD y5.toNat I.dflt].length * (8 : Nat) ≤ (140737488355328 : Nat)) then
  none
  else none
  else none
  else
  f_u15_5 k b_ b_22 j y0 y1 ((IntKind.i64.wrap (y2 + 1))) y6 y7
def f_u15_22 (k : Nat) (b_ : T17.T) (b_22 : List (T18).T) : Nat → List (T9).T → Int → Int → T17.T → List (T18).T → Option R_u15
  | 0, _, _, _, _, _ => none
  | j + 1, y0, y1, y2, y3, y4 =>
  bif (decide (y2 < y1)) then
  if (0 ≤ y2) ∧ (y2 < (↑y0.length : Int)) then
  f_u15_25 k b_ b_22 j y0 y1 y2 ((y0.getD y2.toNat T9.dflt).2.2.1) ((↑ (List.length (y0.getD y2.toNat T9.dflt).2.2.1) : Int)) 0 y3 y4
  else none
  else
  some ((y3, y4))
def f_u15_25 (k : Nat) (b_ : T17.T) (b_22 : List (T18).T) : Nat → List (T9).T → Int → Int → List (I).T → Int → Int → T17.T → List (T18).T → Option R_u15
  | 0, _, _, _, _, _, _, _, _ => none
  | j + 1, y0, y1, y2, y3, y4, y5, y6, y7 =>
  bif (decide (y5 < y4)) then
  if (0 ≤ y5) ∧ (y5 < (↑y3.length : Int)) then
  none
  else none
  else
  f_u15_22 k b_ b_22 j y0 y1 ((IntKind.i64.wrap (y2 + 1))) y6 y7
end
def f_u15 (k : Nat) (b_ : T17.T) (b_22 : List (T18).T) : Option R_u15 :=
  if ((f_u87 k b_.2.2.2.2.2.2.2.2.2.2.2.2.2.2.2.2.2.1).isSome = true) then
  bif (v_u87 k b_.2.2.2.2.2.2.2.2.2.2.2.2.2.2.2.2.2.1 != (0 : Int)) then
  if ((f_u11 k b_ b_22 6 0 (v_u87 k b_.2.2.2.2.2.2.2.2.2.2.2.2.2.2.2.2.2.1)).isSome = true) then
  some (((v_u11 k b_ b_22 6 0 (v_u87 k b_.2.2.2.2.2.2.2.2.2.2.2.2.2.2.2.2.2.1)).1, (v_u11 k b_ b_22 6 0 (v_u87 k b_.2.2.2.2.2.2.2.2.2.2.2.2.2.2.2.2.2.1)).2))
  else none
  else
  f_u15_5 k b_ b_22 k b_.2.2.2.2.2.2.2.2.2.2.2.2.2.2.2.2.2.1 ((↑ (List.length b_.2.2.2.2.2.2.2.2.2.2.2.2.2.2.2.2.2.1) : Int)) 0 b_ b_22
  else none
def v_u15 (k : Nat) (b_ : T17.T) (b_22 : List (T18).T) : R_u15 := (f_u15 k b_ b_22).getD ((T17).dflt, [])
def ke_u15 (k : Nat) : Ke := (90, fun xs => match xs with
  | [.ptr _ _ _] => some [true]
  | _ => none, fun xs bs => match xs, bs with
  | [.ptr 0 0 0], [.var 140 qb_, .row 54 tb_22_ qb_22] => (decS [] T17 (qb_.take 22)).bind fun b_ => (castL tb_22_ T18 qb_22).bind fun b_22 => some (.one (res_u15 (v_u15 k b_ b_22), bo_u15 b_ b_22 (v_u15 k b_ b_22)))
  | _, _ => none)
def cs_u15 : List (Nat × List Cmd) := [(5, [.autoB [0, 3, 31, 32, 33] false [1]]), (8, [.autoB [0, 3, 31, 32, 33, 38, 39, 40] false [1]]), (22, [.autoB [0, 3, 89, 90, 91] false [1]]), (25, [.autoB [0, 3, 89, 90, 91, 96, 97, 98] false [1]])]
abbrev E_u15 (b_ : T17.T) (b_22 : List (T18).T) (todo : List Item) (st : St) (o : Option R_u15) : Prop := ∀ r, o = some r → Ev Tryz.prog Tryz.f90 2 todo st (res_u15 r) (bo_u15 b_ b_22 r)
theorem ev_u15 (k : Nat) (b_ : T17.T) (b_22 : List (T18).T) : ∀ j, (∀ (y0 : List (T11).T) (y1 : Int) (y2 : Int) (y3 : T17.T) (y4 : List (T18).T), E_u15 b_ b_22 (placeAt Tryz.f90 5) (st_u15_5 b_ b_22 y0 y1 y2 y3 y4) (f_u15_5 k b_ b_22 j y0 y1 y2 y3 y4)) ∧ (∀ (y0 : List (T11).T) (y1 : Int) (y2 : Int) (y3 : List (I).T) (y4 : Int) (y5 : Int) (y6 : T17.T) (y7 : List (T18).T), E_u15 b_ b_22 (placeAt Tryz.f90 8) (st_u15_8 b_ b_22 y0 y1 y2 y3 y4 y5 y6 y7) (f_u15_8 k b_ b_22 j y0 y1 y2 y3 y4 y5 y6 y7)) ∧ (∀ (y0 : List (T9).T) (y1 : Int) (y2 : Int) (y3 : T17.T) (y4 : List (T18).T), E_u15 b_ b_22 (placeAt Tryz.f90 22) (st_u15_22 b_ b_22 y0 y1 y2 y3 y4) (f_u15_22 k b_ b_22 j y0 y1 y2 y3 y4)) ∧ (∀ (y0 : List (T9).T) (y1 : Int) (y2 : Int) (y3 : List (I).T) (y4 : Int) (y5 : Int) (y6 : T17.T) (y7 : List (T18).T), E_u15 b_ b_22 (placeAt Tryz.f90 25) (st_u15_25 b_ b_22 y0 y1 y2 y3 y4 y5 y6 y7) (f_u15_25 k b_ b_22 j y0 y1 y2 y3 y4 y5 y6 y7))
  | 0 => ⟨fun _ _ _ _ _ _ h => (nomatch h), fun _ _ _ _ _ _ _ _ _ h => (nomatch h), fun _ _ _ _ _ _ h => (nomatch h), fun _ _ _ _ _ _ _ _ _ h => (nomatch h)⟩
  | j + 1 => by
    have ih := @ev_u15 k b_ b_22 j
    refine ⟨?_, ?_, ?_, ?_⟩
    · intro y0 y1 y2 y3 y4 r h
      rw [f_u15_5] at h
      exact go (mkK [ke_u11 k, ke_u87 k]) [] cs_u15 [.autoB [] true [1]] (gT h (fun c h => gN2 h fun h => gC h 8 (ih.2.1 _ _ _ _ _ _ _ _ _)) fun c h => gC h 22 (ih.2.2.1 _ _ _ _ _ _)) (by kernel_rfl)
    · intro y0 y1 y2 y3 y4 y5 y6 y7 r h
      rw [f_u15_8] at h
      exact go (mkK [ke_u11 k, ke_u87 k]) [] cs_u15 [.autoB [] true [1]] (gT h (fun c h => gN2 h fun h => gN1 h id fun h => gZ h (.stuck 2002)) fun c h => gC h 5 (ih.1 _ _ _ _ _ _)) (by kernel_rfl)
    · intro y0 y1 y2 y3 y4 r h
      rw [f_u15_22] at h
      exact go (mkK [ke_u11 k, ke_u87 k]) [] cs_u15 [.autoB [] true [1]] (gT h (fun c h => gN2 h fun h => gC h 25 (ih.2.2.2 _ _ _ _ _ _ _ _ _)) fun c h => gL h) (by kernel_rfl)
    · intro y0 y1 y2 y3 y4 y5 y6 y7 r h
      rw [f_u15_25] at h
      exact go (mkK [ke_u11 k, ke_u87 k]) [] cs_u15 [.autoB [] true [1]] (gT h (fun c h => gN2 h fun h => gZ h (.stuck 2002)) fun c h => gC h 22 (ih.2.2.1 _ _ _ _ _ _)) (by kernel_rfl)
theorem of_u15 (k : Nat) (b_ : T17.T) (b_22 : List (T18).T) (r : R_u15) (h : f_u15 k b_ b_22 = some r) : C_u15 b_ b_22 r := by
  refine CC.of (fn := Tryz.f90) (by kernel_rfl) (by kernel_rfl) (by kernel_rfl) (by kernel_rfl) ?_
  unfold f_u15 at h
  exact go (mkK [ke_u11 k, ke_u87 k]) [] cs_u15 [.autoB [] true [1]] (gN1 h (fun q => cc_u87 q) fun h => gT h (fun c h => gN1 h (fun q => cc_u11 q) fun h => gL h) fun c h => gC h 5 ((ev_u15 k b_ b_22 k).1 _ _ _ _ _ _)) (by kernel_rfl)
theorem cc_u15 {k : Nat} {b_ : T17.T} {b_22 : List (T18).T} (h : (f_u15 k b_ b_22).isSome = true) : C_u15 b_ b_22 (v_u15 k b_ b_22) := ccG (Φ := C_u15 b_ b_22) h (of_u15 k b_ b_22)
abbrev R_u13 : Type := T17.T × List (T18).T
def res_u13 (r : R_u13) : AV := .tup []
def bo_u13 (b_ : T17.T) (b_22 : List (T18).T) (r : R_u13) : List (Nat × Blk) := [(0, .var 140 ((rvs (enc T17 r.1)) ++ [.own 1 1])), (1, .row 54 T18 r.2)]
def args_u13 (b_ : T17.T) (b_22 : List (T18).T) : List AV := [.ptr 0 0 0]
def bin_u13 (b_ : T17.T) (b_22 : List (T18).T) : List Blk := [.var 140 (rvs (enc T17 b_) ++ [.own 1 0]), .row 54 T18 b_22]
abbrev C_u13 (b_ : T17.T) (b_22 : List (T18).T) (r : R_u13) : Prop := CC Tryz.prog 48 (args_u13 b_ b_22) (bin_u13 b_ b_22) (res_u13 r) (bo_u13 b_ b_22 r)
def st_u13_2 (b_ : T17.T) (b_22 : List (T18).T) (y0 : List (T9).T) (y1 : Int) (y2 : Int) (y3 : T17.T) (y4 : List (T18).T) : St := ⟨mkS 121 [(0, .ptr 0 0 0), (2, .r (.v (Value.slice none 0 0))), (15, .r (.ro T9 y0)), (16, .r (.v (.int .i64 y1))), (17, .r (.v (.int .i64 y2)))], [(0, 0, .var 140 ((rvs (enc T17 y3)) ++ [.own 1 1])), (1, 1, .row 54 T18 y4)]⟩
def f_u13_2 (k : Nat) (b_ : T17.T) (b_22 : List (T18).T) : Nat → List (T9).T → Int → Int → T17.T → List (T18).T → Option R_u13
  | 0, _, _, _, _, _ => none
  | j + 1, y0, y1, y2, y3, y4 =>
  bif (decide (y2 < y1)) then
  if (0 ≤ y2) ∧ (y2 < (↑y0.length : Int)) then
  none
  else none
  else
  if ((f_u15 k y3 y4).isSome = true) then
  some (((v_u15 k y3 y4).1, (v_u15 k y3 y4).2))
  else none
def f_u13 (k : Nat) (b_ : T17.T) (b_22 : List (T18).T) : Option R_u13 :=
  f_u13_2 k b_ b_22 k b_.2.2.2.2.2.2.2.2.2.2.2.2.2.2.2.1 ((↑ (List.length b_.2.2.2.2.2.2.2.2.2.2.2.2.2.2.2.1) : Int)) 0 b_ b_22
def v_u13 (k : Nat) (b_ : T17.T) (b_22 : List (T18).T) : R_u13 := (f_u13 k b_ b_22).getD ((T17).dflt, [])
def ke_u13 (k : Nat) : Ke := (48, fun xs => match xs with
  | [.ptr _ _ _] => some [true]
  | _ => none, fun xs bs => match xs, bs with
  | [.ptr 0 0 0], [.var 140 qb_, .row 54 tb_22_ qb_22] => (decS [] T17 (qb_.take 22)).bind fun b_ => (castL tb_22_ T18 qb_22).bind fun b_22 => some (.one (res_u13 (v_u13 k b_ b_22), bo_u13 b_ b_22 (v_u13 k b_ b_22)))
  | _, _ => none)
def cs_u13 : List (Nat × List Cmd) := [(2, [.autoB [0, 2, 15, 16, 17] false [1]]), (13, [.autoB [0, 2, 4, 5, 15, 16, 17, 66, 67, 68] false [1]]), (19, [.autoB [0, 2, 4, 5, 15, 16, 17, 89, 90, 91] false [1]])]
abbrev E_u13 (b_ : T17.T) (b_22 : List (T18).T) (todo : List Item) (st : St) (o : Option R_u13) : Prop := ∀ r, o = some r → Ev Tryz.prog Tryz.f48 2 todo st (res_u13 r) (bo_u13 b_ b_22 r)
theorem ev_u13 (k : Nat) (b_ : T17.T) (b_22 : List (T18).T) : ∀ j, (∀ (y0 : List (T9).T) (y1 : Int) (y2 : Int) (y3 : T17.T) (y4 : List (T18).T), E_u13 b_ b_22 (placeAt Tryz.f48 2) (st_u13_2 b_ b_22 y0 y1 y2 y3 y4) (f_u13_2 k b_ b_22 j y0 y1 y2 y3 y4))
  | 0 => fun _ _ _ _ _ _ h => (nomatch h)
  | j + 1 => by
    have ih := @ev_u13 k b_ b_22 j
    · intro y0 y1 y2 y3 y4 r h
      rw [f_u13_2] at h
      exact go (mkK [ke_u11 k, ke_u15 k]) [] cs_u13 [.autoB [] true [1]] (gT h (fun c h => gN2 h fun h => gZ h (.stuck 2002)) fun c h => gN1 h (fun q => cc_u15 q) fun h => gL h) (by kernel_rfl)
theorem of_u13 (k : Nat) (b_ : T17.T) (b_22 : List (T18).T) (r : R_u13) (h : f_u13 k b_ b_22 = some r) : C_u13 b_ b_22 r := by
  refine CC.of (fn := Tryz.f48) (by kernel_rfl) (by kernel_rfl) (by kernel_rfl) (by kernel_rfl) ?_
  unfold f_u13 at h
  exact go (mkK [ke_u11 k, ke_u15 k]) [] cs_u13 [.autoB [] true [1]] (gC h 2 ((ev_u13 k b_ b_22 k) _ _ _ _ _ _)) (by kernel_rfl)
theorem cc_u13 {k : Nat} {b_ : T17.T} {b_22 : List (T18).T} (h : (f_u13 k b_ b_22).isSome = true) : C_u13 b_ b_22 (v_u13 k b_ b_22) := ccG (Φ := C_u13 b_ b_22) h (of_u13 k b_ b_22)
abbrev R_u9 : Type := T17.T × List (T18).T
def res_u9 (r : R_u9) : AV := .tup []
def bo_u9 (b_ : T17.T) (b_22 : List (T18).T) (r : R_u9) : List (Nat × Blk) := [(0, .var 140 ((rvs (enc T17 r.1)) ++ [.own 1 1])), (1, .row 54 T18 r.2)]
def args_u9 (b_ : T17.T) (b_22 : List (T18).T) : List AV := [.ptr 0 0 0]
def bin_u9 (b_ : T17.T) (b_22 : List (T18).T) : List Blk := [.var 140 (rvs (enc T17 b_) ++ [.own 1 0]), .row 54 T18 b_22]
abbrev C_u9 (b_ : T17.T) (b_22 : List (T18).T) (r : R_u9) : Prop := CC Tryz.prog 57 (args_u9 b_ b_22) (bin_u9 b_ b_22) (res_u9 r) (bo_u9 b_ b_22 r)
def st_u9_3 (b_ : T17.T) (b_22 : List (T18).T) (y0 : List (T12).T) (y1 : Int) (y2 : Int) (y3 : T17.T) (y4 : List (T18).T) : St := ⟨mkS 74 [(0, .ptr 0 0 0), (37, .r (.ro T12 y0)), (38, .r (.v (.int .i64 y1))), (39, .r (.v (.int .i64 y2)))], [(0, 0, .var 140 ((rvs (enc T17 y3)) ++ [.own 1 1])), (1, 1, .row 54 T18 y4)]⟩
def f_u9_3 (k : Nat) (b_ : T17.T) (b_22 : List (T18).T) : Nat → List (T12).T → Int → Int → T17.T → List (T18).T → Option R_u9
  | 0, _, _, _, _, _ => none
  | j + 1, y0, y1, y2, y3, y4 =>
  bif (decide (y2 < y1)) then
  if (0 ≤ y2) ∧ (y2 < (↑y0.length : Int)) then
  none
  else none
  else
  some ((y3, y4))
def f_u9 (k : Nat) (b_ : T17.T) (b_22 : List (T18).T) : Option R_u9 :=
  bif ((↑ (List.length b_.2.2.2.2.2.2.2.2.2.2.2.2.2.2.2.2.2.2.1) : Int) != (↑ (List.length b_.2.2.2.2.2.2.2.2.2.2.2.2.2.2.2.2.2.2.2.1) : Int)) then
  if ((f_u11 k b_ b_22 8 (↑ (List.length b_.2.2.2.2.2.2.2.2.2.2.2.2.2.2.2.2.2.2.1) : Int) (↑ (List.length b_.2.2.2.2.2.2.2.2.2.2.2.2.2.2.2.2.2.2.2.1) : Int)).isSome = true) then
  some (((v_u11 k b_ b_22 8 (↑ (List.length b_.2.2.2.2.2.2.2.2.2.2.2.2.2.2.2.2.2.2.1) : Int) (↑ (List.length b_.2.2.2.2.2.2.2.2.2.2.2.2.2.2.2.2.2.2.2.1) : Int)).1, (v_u11 k b_ b_22 8 (↑ (List.length b_.2.2.2.2.2.2.2.2.2.2.2.2.2.2.2.2.2.2.1) : Int) (↑ (List.length b_.2.2.2.2.2.2.2.2.2.2.2.2.2.2.2.2.2.2.2.1) : Int)).2))
  else none
  else
  f_u9_3 k b_ b_22 k b_.2.2.2.2.2.2.2.2.2.2.2.2.2.2.2.2.2.2.1 ((↑ (List.length b_.2.2.2.2.2.2.2.2.2.2.2.2.2.2.2.2.2.2.1) : Int)) 0 b_ b_22
def v_u9 (k : Nat) (b_ : T17.T) (b_22 : List (T18).T) : R_u9 := (f_u9 k b_ b_22).getD ((T17).dflt, [])
def ke_u9 (k : Nat) : Ke := (57, fun xs => match xs with
  | [.ptr _ _ _] => some [true]
  | _ => none, fun xs bs => match xs, bs with
  | [.ptr 0 0 0], [.var 140 qb_, .row 54 tb_22_ qb_22] => (decS [] T17 (qb_.take 22)).bind fun b_ => (castL tb_22_ T18 qb_22).bind fun b_22 => some (.one (res_u9 (v_u9 k b_ b_22), bo_u9 b_ b_22 (v_u9 k b_ b_22)))
  | _, _ => none)
def cs_u9 : List (Nat × List Cmd) := [(3, [.autoB [0, 37, 38, 39] false [1]])]
abbrev E_u9 (b_ : T17.T) (b_22 : List (T18).T) (todo : List Item) (st : St) (o : Option R_u9) : Prop := ∀ r, o = some r → Ev Tryz.prog Tryz.f57 2 todo st (res_u9 r) (bo_u9 b_ b_22 r)
theorem ev_u9 (k : Nat) (b_ : T17.T) (b_22 : List (T18).T) : ∀ j, (∀ (y0 : List (T12).T) (y1 : Int) (y2 : Int) (y3 : T17.T) (y4 : List (T18).T), E_u9 b_ b_22 (placeAt Tryz.f57 3) (st_u9_3 b_ b_22 y0 y1 y2 y3 y4) (f_u9_3 k b_ b_22 j y0 y1 y2 y3 y4))
  | 0 => fun _ _ _ _ _ _ h => (nomatch h)
  | j + 1 => by
    have ih := @ev_u9 k b_ b_22 j
    · intro y0 y1 y2 y3 y4 r h
      rw [f_u9_3] at h
      exact go (mkK [ke_u11 k]) [] cs_u9 [.autoB [] true [1]] (gT h (fun c h => gN2 h fun h => gZ h (.stuck 2002)) fun c h => gL h) (by kernel_rfl)
theorem of_u9 (k : Nat) (b_ : T17.T) (b_22 : List (T18).T) (r : R_u9) (h : f_u9 k b_ b_22 = some r) : C_u9 b_ b_22 r := by
  refine CC.of (fn := Tryz.f57) (by kernel_rfl) (by kernel_rfl) (by kernel_rfl) (by kernel_rfl) ?_
  unfold f_u9 at h
  exact go (mkK [ke_u11 k]) [] cs_u9 [.autoB [] true [1]] (gT h (fun c h => gN1 h (fun q => cc_u11 q) fun h => gL h) fun c h => gC h 3 ((ev_u9 k b_ b_22 k) _ _ _ _ _ _)) (by kernel_rfl)
theorem cc_u9 {k : Nat} {b_ : T17.T} {b_22 : List (T18).T} (h : (f_u9 k b_ b_22).isSome = true) : C_u9 b_ b_22 (v_u9 k b_ b_22) := ccG (Φ := C_u9 b_ b_22) h (of_u9 k b_ b_22)
abbrev R_u23 : Type := Int
def res_u23 (r : R_u23) : AV := .r (.v (.int .i64 r))
def bo_u23 (l_ : List (T14).T) (capacity_ : Int) (r : R_u23) : List (Nat × Blk) := []
def args_u23 (l_ : List (T14).T) (capacity_ : Int) : List AV := [.r (.ro T14 l_), .r (.v (.int .i64 capacity_))]
def bin_u23 (l_ : List (T14).T) (capacity_ : Int) : List Blk := []
abbrev C_u23 (l_ : List (T14).T) (capacity_ : Int) (r : R_u23) : Prop := CC Tryz.prog 105 (args_u23 l_ capacity_) (bin_u23 l_ capacity_) (res_u23 r) (bo_u23 l_ capacity_ r)
def st_u23_6 (y0 : List (T14).T) (y1 : Int) (y2 : Int) (y3 : Int) : St := ⟨mkS 72 [(0, .r (.ro T14 y0)), (1, .r (.v (.int .i64 y1))), (20, .r (.v (.int .i64 y2))), (21, .r (.v (.int .i64 y3)))], []⟩
def st_u23_14 (y0 : List (T14).T) (y1 : Int) (y2 : Int) (y3 : Int) (y4 : Int) : St := ⟨mkS 72 [(0, .r (.ro T14 y0)), (1, .r (.v (.int .i64 y1))), (7, .r (.v (.int .i64 y2))), (34, .r (.v (.int .i64 y3))), (35, .r (.v (.int .i64 y4)))], []⟩
mutual
def f_u23_6 (k : Nat) : Nat → List (T14).T → Int → Int → Int → Option R_u23
  | 0, _, _, _, _ => none
  | j + 1, y0, y1, y2, y3 =>
  bif (decide (y3 < y2)) then
  none
  else
  f_u23_14 k j y0 y1 0 ((↑y0.length : Int)) 0
def f_u23_14 (k : Nat) : Nat → List (T14).T → Int → Int → Int → Int → Option R_u23
  | 0, _, _, _, _, _ => none
  | j + 1, y0, y1, y2, y3, y4 =>
  bif (decide (y4 < y3)) then
  if (0 ≤ y4) ∧ (y4 < (↑y0.length : Int)) then
  if (decide (y4 > (0 : Int)) = true → (0 : Int) ≤ IntKind.i64.wrap (y4 - (1 : Int))) ∧ (decide (y4 > (0 : Int)) = true → IntKind.i64.wrap (y4 - (1 : Int)) < (↑y0.length : Int)) then
  bif (decide (y4 > (0 : Int)) && decide ((y0.getD y4.toNat T14.dflt).1 < (y0.getD (IntKind.i64.wrap (y4 - (1 : Int))).toNat T14.dflt).1)) then
  some 9
  else
  bif ((y0.getD y4.toNat T14.dflt).2.1 == (6 : Int) && decide ((y0.getD y4.toNat T14.dflt).2.2.1 > y2)) then
  some 19
  else
  none
  else none
  else none
  else
  some 0
end
def f_u23 (k : Nat) (l_ : List (T14).T) (capacity_ : Int) : Option R_u23 :=
  bif (decide (capacity_ < (0 : Int)) || decide (capacity_ > (1099511627776 : Int))) then
  some 1
  else
  bif (decide ((↑l_.length : Int) > (512 : Int))) then
  some 8
  else
  f_u23_6 k k l_ capacity_ ((↑l_.length : Int)) 0
def v_u23 (k : Nat) (l_ : List (T14).T) (capacity_ : Int) : R_u23 := (f_u23 k l_ capacity_).getD 0
def ke_u23 (k : Nat) : Ke := (105, fun xs => match xs with
  | [_, _] => some [false, false]
  | _ => none, fun xs bs => match xs, bs with
  | [.r (.ro tl__ ql_), .r (.v (.int .i64 capacity_))], [] => (castL tl__ T14 ql_).bind fun l_ => some (.one (res_u23 (v_u23 k l_ capacity_), bo_u23 l_ capacity_ (v_u23 k l_ capacity_)))
  | _, _ => none)
def cs_u23 : List (Nat × List Cmd) := [(6, [.autoB [0, 1, 20, 21] false []]), (14, [.autoB [0, 1, 7, 34, 35] false []])]
abbrev E_u23 (l_ : List (T14).T) (capacity_ : Int) (todo : List Item) (st : St) (o : Option R_u23) : Prop := ∀ r, o = some r → Ev Tryz.prog Tryz.f105 0 todo st (res_u23 r) (bo_u23 l_ capacity_ r)
theorem ev_u23 (k : Nat) (l_ : List (T14).T) (capacity_ : Int) : ∀ j, (∀ (y0 : List (T14).T) (y1 : Int) (y2 : Int) (y3 : Int), E_u23 l_ capacity_ (placeAt Tryz.f105 6) (st_u23_6 y0 y1 y2 y3) (f_u23_6 k j y0 y1 y2 y3)) ∧ (∀ (y0 : List (T14).T) (y1 : Int) (y2 : Int) (y3 : Int) (y4 : Int), E_u23 l_ capacity_ (placeAt Tryz.f105 14) (st_u23_14 y0 y1 y2 y3 y4) (f_u23_14 k j y0 y1 y2 y3 y4))
  | 0 => ⟨fun _ _ _ _ _ h => (nomatch h), fun _ _ _ _ _ _ h => (nomatch h)⟩
  | j + 1 => by
    have ih := @ev_u23 k l_ capacity_ j
    refine ⟨?_, ?_⟩
    · intro y0 y1 y2 y3 r h
      rw [f_u23_6] at h
      exact go (mkK []) [] cs_u23 [.autoB [4] true []] (gT h (fun c h => gZ h (.stuck 2004)) fun c h => gC h 14 (ih.2 _ _ _ _ _ _)) (by kernel_rfl)
    · intro y0 y1 y2 y3 y4 r h
      rw [f_u23_14] at h
      exact go (mkK []) [] cs_u23 [.autoB [4] true []] (gT h (fun c h => gN2 h fun h => gN2 h fun h => gT h (fun c h => gL h) fun c h => gT h (fun c h => gL h) fun c h => gZ h (.stuck 2002)) fun c h => gL h) (by kernel_rfl)
theorem of_u23 (k : Nat) (l_ : List (T14).T) (capacity_ : Int) (r : R_u23) (h : f_u23 k l_ capacity_ = some r) : C_u23 l_ capacity_ r := by
  refine CC.of (fn := Tryz.f105) (by kernel_rfl) (by kernel_rfl) (by kernel_rfl) (by kernel_rfl) ?_
  unfold f_u23 at h
  exact go (mkK []) [] cs_u23 [.autoB [4] true []] (gT h (fun c h => gL h) fun c h => gT h (fun c h => gL h) fun c h => gC h 6 ((ev_u23 k l_ capacity_ k).1 _ _ _ _ _)) (by kernel_rfl)
theorem cc_u23 {k : Nat} {l_ : List (T14).T} {capacity_ : Int} (h : (f_u23 k l_ capacity_).isSome = true) : C_u23 l_ capacity_ (v_u23 k l_ capacity_) := ccG (Φ := C_u23 l_ capacity_) h (of_u23 k l_ capacity_)
abbrev R_u12 : Type := T17.T × List (T18).T
def res_u12 (r : R_u12) : AV := .tup []
def bo_u12 (b_ : T17.T) (b_22 : List (T18).T) (r : R_u12) : List (Nat × Blk) := [(0, .var 140 ((rvs (enc T17 r.1)) ++ [.own 1 1])), (1, .row 54 T18 r.2)]
def args_u12 (b_ : T17.T) (b_22 : List (T18).T) : List AV := [.ptr 0 0 0]
def bin_u12 (b_ : T17.T) (b_22 : List (T18).T) : List Blk := [.var 140 (rvs (enc T17 b_) ++ [.own 1 0]), .row 54 T18 b_22]
abbrev C_u12 (b_ : T17.T) (b_22 : List (T18).T) (r : R_u12) : Prop := CC Tryz.prog 60 (args_u12 b_ b_22) (bin_u12 b_ b_22) (res_u12 r) (bo_u12 b_ b_22 r)
def st_u12_6 (b_ : T17.T) (b_22 : List (T18).T) (y0 : Int) (y1 : List (T16).T) (y2 : Int) (y3 : Int) (y4 : T17.T) (y5 : List (T18).T) (y6 : List ((I).T × (RTy.bool).T)) : St := ⟨mkS 120 [(0, .ptr 0 0 0), (3, .r (.v (.int .i64 y0))), (4, .own 1000000 0), (32, .r (.ro T16 y1)), (33, .r (.v (.int .i64 y2))), (34, .r (.v (.int .i64 y3)))], [(0, 0, .var 140 ((rvs (enc T17 y4)) ++ [.own 1 1])), (1, 1, .row 54 T18 y5), (1000000, 0, .map false I RTy.bool y6)]⟩
def st_u12_22 (b_ : T17.T) (b_22 : List (T18).T) (y0 : Int) (y1 : List (T11).T) (y2 : Int) (y3 : Int) (y4 : T17.T) (y5 : List (T18).T) : St := ⟨mkS 120 [(0, .ptr 0 0 0), (3, .r (.v (.int .i64 y0))), (78, .r (.ro T11 y1)), (79, .r (.v (.int .i64 y2))), (80, .r (.v (.int .i64 y3)))], [(0, 0, .var 140 ((rvs (enc T17 y4)) ++ [.own 1 1])), (1, 1, .row 54 T18 y5)]⟩
def st_u12_25 (b_ : T17.T) (b_22 : List (T18).T) (y0 : Int) (y1 : List (T11).T) (y2 : Int) (y3 : Int) (y4 : List (I).T) (y5 : Int) (y6 : Int) (y7 : T17.T) (y8 : List (T18).T) : St := ⟨mkS 120 [(0, .ptr 0 0 0), (3, .r (.v (.int .i64 y0))), (78, .r (.ro T11 y1)), (79, .r (.v (.int .i64 y2))), (80, .r (.v (.int .i64 y3))), (85, .r (.ro I y4)), (86, .r (.v (.int .i64 y5))), (87, .r (.v (.int .i64 y6)))], [(0, 0, .var 140 ((rvs (enc T17 y7)) ++ [.own 1 1])), (1, 1, .row 54 T18 y8)]⟩
def st_u12_31 (b_ : T17.T) (b_22 : List (T18).T) (y0 : Int) (y1 : List (T13).T) (y2 : Int) (y3 : Int) (y4 : T17.T) (y5 : List (T18).T) : St := ⟨mkS 120 [(0, .ptr 0 0 0), (3, .r (.v (.int .i64 y0))), (102, .r (.ro T13 y1)), (103, .r (.v (.int .i64 y2))), (104, .r (.v (.int .i64 y3)))], [(0, 0, .var 140 ((rvs (enc T17 y4)) ++ [.own 1 1])), (1, 1, .row 54 T18 y5)]⟩
mutual
def f_u12_6 (k : Nat) (b_ : T17.T) (b_22 : List (T18).T) : Nat → Int → List (T16).T → Int → Int → T17.T → List (T18).T → (List ((I).T × (RTy.bool).T)) → Option R_u12
  | 0, _, _, _, _, _, _, _ => none
  | j + 1, y0, y1, y2, y3, y4, y5, y6 =>
  bif (decide (y3 < y2)) then
  if (0 ≤ y3) ∧ (y3 < (↑y1.length : Int)) then
  none
  else none
  else
  f_u12_22 k b_ b_22 j y0 y4.2.2.2.2.2.2.2.2.2.2.2.2.2.2.2.2.2.1 ((↑ (List.length y4.2.2.2.2.2.2.2.2.2.2.2.2.2.2.2.2.2.1) : Int)) 0 y4 y5
def f_u12_22 (k : Nat) (b_ : T17.T) (b_22 : List (T18).T) : Nat → Int → List (T11).T → Int → Int → T17.T → List (T18).T → Option R_u12
  | 0, _, _, _, _, _, _ => none
  | j + 1, y0, y1, y2, y3, y4, y5 =>
  bif (decide (y3 < y2)) then
  if (0 ≤ y3) ∧ (y3 < (↑y1.length : Int)) then
  f_u12_25 k b_ b_22 j y0 y1 y2 y3 ((y1.getD y3.toNat T11.dflt).2.2) ((↑ (List.length (y1.getD y3.toNat T11.dflt).2.2) : Int)) 0 y4 y5
  else none
  else
  f_u12_31 k b_ b_22 j y0 y4.2.2.2.2.2.2.2.2.2.2.2.2.2.2.2.2.2.2.2.1 ((↑ (List.length y4.2.2.2.2.2.2.2.2.2.2.2.2.2.2.2.2.2.2.2.1) : Int)) 0 y4 y5
def f_u12_25 (k : Nat) (b_ : T17.T) (b_22 : List (T18).T) : Nat → Int → List (T11).T → Int → Int → List (I).T → Int → Int → T17.T → List (T18).T → Option R_u12
  | 0, _, _, _, _, _, _, _, _, _ => none
  | j + 1, y0, y1, y2, y3, y4, y5, y6, y7, y8 =>
  bif (decide (y6 < y5)) then
  if (0 ≤ y6) ∧ (y6 < (↑y4.length : Int)) then
  none
  else none
  else
  f_u12_22 k b_ b_22 j y0 y1 y2 ((IntKind.i64.wrap (y3 + 1))) y7 y8
def f_u12_31 (k : Nat) (b_ : T17.T) (b_22 : List (T18).T) : Nat → Int → List (T13).T → Int → Int → T17.T → List (T18).T → Option R_u12
  | 0, _, _, _, _, _, _ => none
  | j + 1, y0, y1, y2, y3, y4, y5 =>
  bif (decide (y3 < y2)) then
  if (0 ≤ y3) ∧ (y3 < (↑y1.length : Int)) then
  f_u12_31 k b_ b_22 j ((IntKind.i64.wrap (y0 + if (if 1000000000000 < (y1.getD y3.toNat T13.dflt).2.2.2 then 1000000000000 else (y1.getD y3.toNat T13.dflt).2.2.2) > 0 then if 1000000000000 < (y1.getD y3.toNat T13.dflt).2.2.2 then 1000000000000 else (y1.getD y3.toNat T13.dflt).2.2.2 else 0))) y1 y2 ((IntKind.i64.wrap (y3 + 1))) y4 y5
  else none
  else
  bif (y0 != (0 : Int)) then
  if ((f_u11 k y4 y5 11 0 y0).isSome = true) then
  some (((v_u11 k y4 y5 11 0 y0).1, (v_u11 k y4 y5 11 0 y0).2))
  else none
  else
  some ((y4, y5))
end
def f_u12 (k : Nat) (b_ : T17.T) (b_22 : List (T18).T) : Option R_u12 :=
  if ((f_u23 k b_.2.2.2.2.2.2.2.2.2.2.2.2.2.2.2.2.2.2.2.2.1 1099511627776).isSome = true) then
  bif (v_u23 k b_.2.2.2.2.2.2.2.2.2.2.2.2.2.2.2.2.2.2.2.2.1 (1099511627776 : Int) != (0 : Int)) then
  if ((f_u11 k b_ b_22 10 (v_u23 k b_.2.2.2.2.2.2.2.2.2.2.2.2.2.2.2.2.2.2.2.2.1 1099511627776) 0).isSome = true) then
  f_u12_6 k b_ b_22 k 0 ((v_u11 k b_ b_22 10 (v_u23 k b_.2.2.2.2.2.2.2.2.2.2.2.2.2.2.2.2.2.2.2.2.1 1099511627776) 0).1.2.2.2.2.2.2.2.2.2.2.2.2.2.2.2.2.2.2.2.2.2) ((↑ (List.length (v_u11 k b_ b_22 10 (v_u23 k b_.2.2.2.2.2.2.2.2.2.2.2.2.2.2.2.2.2.2.2.2.1 1099511627776) 0).1.2.2.2.2.2.2.2.2.2.2.2.2.2.2.2.2.2.2.2.2.2) : Int)) 0 ((v_u11 k b_ b_22 10 (v_u23 k b_.2.2.2.2.2.2.2.2.2.2.2.2.2.2.2.2.2.2.2.2.1 1099511627776) 0).1) ((v_u11 k b_ b_22 10 (v_u23 k b_.2.2.2.2.2.2.2.2.2.2.2.2.2.2.2.2.2.2.2.2.1 1099511627776) 0).2) ([])
  else none
  else
  f_u12_6 k b_ b_22 k 0 b_.2.2.2.2.2.2.2.2.2.2.2.2.2.2.2.2.2.2.2.2.2 ((↑ (List.length b_.2.2.2.2.2.2.2.2.2.2.2.2.2.2.2.2.2.2.2.2.2) : Int)) 0 b_ b_22 ([])
  else none
def v_u12 (k : Nat) (b_ : T17.T) (b_22 : List (T18).T) : R_u12 := (f_u12 k b_ b_22).getD ((T17).dflt, [])
def ke_u12 (k : Nat) : Ke := (60, fun xs => match xs with
  | [.ptr _ _ _] => some [true]
  | _ => none, fun xs bs => match xs, bs with
  | [.ptr 0 0 0], [.var 140 qb_, .row 54 tb_22_ qb_22] => (decS [] T17 (qb_.take 22)).bind fun b_ => (castL tb_22_ T18 qb_22).bind fun b_22 => some (.one (res_u12 (v_u12 k b_ b_22), bo_u12 b_ b_22 (v_u12 k b_ b_22)))
  | _, _ => none)
def cs_u12 : List (Nat × List Cmd) := [(6, [.autoB [0, 3, 4, 32, 33, 34] false [1]]), (14, [.autoB [0, 3, 4, 6, 32, 33, 34, 56, 57, 58] false [1]]), (22, [.autoB [0, 3, 78, 79, 80] false [1]]), (25, [.autoB [0, 3, 78, 79, 80, 85, 86, 87] false [1]]), (31, [.autoB [0, 3, 102, 103, 104] false [1]])]
abbrev E_u12 (b_ : T17.T) (b_22 : List (T18).T) (todo : List Item) (st : St) (o : Option R_u12) : Prop := ∀ r, o = some r → Ev Tryz.prog Tryz.f60 2 todo st (res_u12 r) (bo_u12 b_ b_22 r)
theorem ev_u12 (k : Nat) (b_ : T17.T) (b_22 : List (T18).T) : ∀ j, (∀ (y0 : Int) (y1 : List (T16).T) (y2 : Int) (y3 : Int) (y4 : T17.T) (y5 : List (T18).T) (y6 : List ((I).T × (RTy.bool).T)), E_u12 b_ b_22 (placeAt Tryz.f60 6) (st_u12_6 b_ b_22 y0 y1 y2 y3 y4 y5 y6) (f_u12_6 k b_ b_22 j y0 y1 y2 y3 y4 y5 y6)) ∧ (∀ (y0 : Int) (y1 : List (T11).T) (y2 : Int) (y3 : Int) (y4 : T17.T) (y5 : List (T18).T), E_u12 b_ b_22 (placeAt Tryz.f60 22) (st_u12_22 b_ b_22 y0 y1 y2 y3 y4 y5) (f_u12_22 k b_ b_22 j y0 y1 y2 y3 y4 y5)) ∧ (∀ (y0 : Int) (y1 : List (T11).T) (y2 : Int) (y3 : Int) (y4 : List (I).T) (y5 : Int) (y6 : Int) (y7 : T17.T) (y8 : List (T18).T), E_u12 b_ b_22 (placeAt Tryz.f60 25) (st_u12_25 b_ b_22 y0 y1 y2 y3 y4 y5 y6 y7 y8) (f_u12_25 k b_ b_22 j y0 y1 y2 y3 y4 y5 y6 y7 y8)) ∧ (∀ (y0 : Int) (y1 : List (T13).T) (y2 : Int) (y3 : Int) (y4 : T17.T) (y5 : List (T18).T), E_u12 b_ b_22 (placeAt Tryz.f60 31) (st_u12_31 b_ b_22 y0 y1 y2 y3 y4 y5) (f_u12_31 k b_ b_22 j y0 y1 y2 y3 y4 y5))
  | 0 => ⟨fun _ _ _ _ _ _ _ _ h => (nomatch h), fun _ _ _ _ _ _ _ h => (nomatch h), fun _ _ _ _ _ _ _ _ _ _ h => (nomatch h), fun _ _ _ _ _ _ _ h => (nomatch h)⟩
  | j + 1 => by
    have ih := @ev_u12 k b_ b_22 j
    refine ⟨?_, ?_, ?_, ?_⟩
    · intro y0 y1 y2 y3 y4 y5 y6 r h
      rw [f_u12_6] at h
      exact go (mkK [ke_u11 k, ke_u23 k]) [] cs_u12 [.autoB [] true [1]] (gT h (fun c h => gN2 h fun h => gZ h (.stuck 2001)) fun c h => gC h 22 (ih.2.1 _ _ _ _ _ _ _)) (by kernel_rfl)
    · intro y0 y1 y2 y3 y4 y5 r h
      rw [f_u12_22] at h
      exact go (mkK [ke_u11 k, ke_u23 k]) [] cs_u12 [.autoB [] true [1]] (gT h (fun c h => gN2 h fun h => gC h 25 (ih.2.2.1 _ _ _ _ _ _ _ _ _ _)) fun c h => gC h 31 (ih.2.2.2 _ _ _ _ _ _ _)) (by kernel_rfl)
    · intro y0 y1 y2 y3 y4 y5 y6 y7 y8 r h
      rw [f_u12_25] at h
      exact go (mkK [ke_u11 k, ke_u23 k]) [] cs_u12 [.autoB [] true [1]] (gT h (fun c h => gN2 h fun h => gZ h (.stuck 2003)) fun c h => gC h 22 (ih.2.1 _ _ _ _ _ _ _)) (by kernel_rfl)
    · intro y0 y1 y2 y3 y4 y5 r h
      rw [f_u12_31] at h
      exact go (mkK [ke_u11 k, ke_u23 k]) [] cs_u12 [.autoB [] true [1]] (gT h (fun c h => gN2 h fun h => gC h 31 (ih.2.2.2 _ _ _ _ _ _ _)) fun c h => gT h (fun c h => gN1 h (fun q => cc_u11 q) fun h => gL h) fun c h => gL h) (by kernel_rfl)
theorem of_u12 (k : Nat) (b_ : T17.T) (b_22 : List (T18).T) (r : R_u12) (h : f_u12 k b_ b_22 = some r) : C_u12 b_ b_22 r := by
  refine CC.of (fn := Tryz.f60) (by kernel_rfl) (by kernel_rfl) (by kernel_rfl) (by kernel_rfl) ?_
  unfold f_u12 at h
  exact go (mkK [ke_u11 k, ke_u23 k]) [] cs_u12 [.autoB [] true [1]] (gN1 h (fun q => cc_u23 q) fun h => gT h (fun c h => gN1 h (fun q => cc_u11 q) fun h => gC h 6 ((ev_u12 k b_ b_22 k).1 _ _ _ _ _ _ _ _)) fun c h => gC h 6 ((ev_u12 k b_ b_22 k).1 _ _ _ _ _ _ _ _)) (by kernel_rfl)
theorem cc_u12 {k : Nat} {b_ : T17.T} {b_22 : List (T18).T} (h : (f_u12 k b_ b_22).isSome = true) : C_u12 b_ b_22 (v_u12 k b_ b_22) := ccG (Φ := C_u12 b_ b_22) h (of_u12 k b_ b_22)
abbrev R_u2 : Type := T17.T
def res_u2 (r : R_u2) : AV := .sub 2 0 1 0 5
def bo_u2 (x_ : T17.T) (x_22 : List (T18).T) (r : R_u2) : List (Nat × Blk) := [(0, .var 140 ((rvs (enc T17 r)) ++ [.own 1 0])), (0, .row 54 T18 x_22), (0, .var 1 [.fn ((Fn.func 37)) [.ptr 0 0 0] [], .fn ((Fn.func 35)) [.ptr 0 0 0] [], .fn ((Fn.func 48)) [.ptr 0 0 0] [], .fn ((Fn.func 57)) [.ptr 0 0 0] [], .fn ((Fn.func 60)) [.ptr 0 0 0] []])]
def args_u2 (x_ : T17.T) (x_22 : List (T18).T) : List AV := [.ptr 0 0 0]
def bin_u2 (x_ : T17.T) (x_22 : List (T18).T) : List Blk := [.var 140 (rvs (enc T17 x_) ++ [.own 1 0]), .row 54 T18 x_22]
abbrev C_u2 (x_ : T17.T) (x_22 : List (T18).T) (r : R_u2) : Prop := CC Tryz.prog 66 (args_u2 x_ x_22) (bin_u2 x_ x_22) (res_u2 r) (bo_u2 x_ x_22 r)
def f_u2 (k : Nat) (x_ : T17.T) (x_22 : List (T18).T) : Option R_u2 :=
  some x_
def v_u2 (k : Nat) (x_ : T17.T) (x_22 : List (T18).T) : R_u2 := (f_u2 k x_ x_22).getD (T17).dflt
def ke_u2 (k : Nat) : Ke := (66, fun xs => match xs with
  | [.ptr _ _ _] => some [true]
  | _ => none, fun xs bs => match xs, bs with
  | [.ptr 0 0 0], [.var 140 qx_, .row 54 tx_22_ qx_22] => (decS [] T17 (qx_.take 22)).bind fun x_ => (castL tx_22_ T18 qx_22).bind fun x_22 => some (.one (res_u2 (v_u2 k x_ x_22), bo_u2 x_ x_22 (v_u2 k x_ x_22)))
  | _, _ => none)
theorem of_u2 (k : Nat) (x_ : T17.T) (x_22 : List (T18).T) (r : R_u2) (h : f_u2 k x_ x_22 = some r) : C_u2 x_ x_22 r := by
  refine CC.of (fn := Tryz.f66) (by kernel_rfl) (by kernel_rfl) (by kernel_rfl) (by kernel_rfl) ?_
  unfold f_u2 at h
  exact go (mkK [ke_u14 k, ke_u16 k, ke_u13 k, ke_u9 k, ke_u12 k]) [] [] [.autoB [2] true []] (gL h) (by kernel_rfl)
theorem cc_u2 {k : Nat} {x_ : T17.T} {x_22 : List (T18).T} (h : (f_u2 k x_ x_22).isSome = true) : C_u2 x_ x_22 (v_u2 k x_ x_22) := ccG (Φ := C_u2 x_ x_22) h (of_u2 k x_ x_22)
abbrev R_u20 : Type := List (T18).T × Int
def res_u20 (r : R_u20) : AV := .tup [.r (.ro T18 r.1), .r (.v (.int .i64 r.2))]
def bo_u20 (b_ : T17.T) (r : R_u20) : List (Nat × Blk) := []
def args_u20 (b_ : T17.T) : List AV := [.agg (rvs (enc T17 b_)), .r (.v (.func (.func 66) #[] #[]))]
def bin_u20 (b_ : T17.T) : List Blk := []
abbrev C_u20 (b_ : T17.T) (r : R_u20) : Prop := CC Tryz.prog 33 (args_u20 b_) (bin_u20 b_) (res_u20 r) (bo_u20 b_ r)
def st_u20_10005 (y0 : T17.T) (y1 : List (T18).T) : St := ⟨mkS 29 [(6, .ptr 1000000 0 0), (16, .sub 1000002 0 1 0 5), (17, .r (.v (.int .i64 5))), (18, .r (.v (.int .i64 0)))], [(1000000, 0, .var 140 ((rvs (enc T17 y0)) ++ [.own 1000001 0])), (1000001, 0, .row 54 T18 y1), (1000002, 0, .var 1 [.fn ((Fn.func 37)) [.ptr 1000000 0 0] [], .fn ((Fn.func 35)) [.ptr 1000000 0 0] [], .fn ((Fn.func 48)) [.ptr 1000000 0 0] [], .fn ((Fn.func 57)) [.ptr 1000000 0 0] [], .fn ((Fn.func 60)) [.ptr 1000000 0 0] []])]⟩
def st_u20_20005 (y0 : T17.T) (y1 : List (T18).T) : St := ⟨mkS 29 [(6, .ptr 1000000 0 0), (16, .sub 1000002 0 1 0 5), (17, .r (.v (.int .i64 5))), (18, .r (.v (.int .i64 1)))], [(1000000, 0, .var 140 ((rvs (enc T17 y0)) ++ [.own 1000001 0])), (1000001, 0, .row 54 T18 y1), (1000002, 0, .var 1 [.fn ((Fn.func 37)) [.ptr 1000000 0 0] [], .fn ((Fn.func 35)) [.ptr 1000000 0 0] [], .fn ((Fn.func 48)) [.ptr 1000000 0 0] [], .fn ((Fn.func 57)) [.ptr 1000000 0 0] [], .fn ((Fn.func 60)) [.ptr 1000000 0 0] []])]⟩
def st_u20_30005 (y0 : T17.T) (y1 : List (T18).T) : St := ⟨mkS 29 [(6, .ptr 1000000 0 0), (16, .sub 1000002 0 1 0 5), (17, .r (.v (.int .i64 5))), (18, .r (.v (.int .i64 2)))], [(1000000, 0, .var 140 ((rvs (enc T17 y0)) ++ [.own 1000001 0])), (1000001, 0, .row 54 T18 y1), (1000002, 0, .var 1 [.fn ((Fn.func 37)) [.ptr 1000000 0 0] [], .fn ((Fn.func 35)) [.ptr 1000000 0 0] [], .fn ((Fn.func 48)) [.ptr 1000000 0 0] [], .fn ((Fn.func 57)) [.ptr 1000000 0 0] [], .fn ((Fn.func 60)) [.ptr 1000000 0 0] []])]⟩
def st_u20_40005 (y0 : T17.T) (y1 : List (T18).T) : St := ⟨mkS 29 [(6, .ptr 1000000 0 0), (16, .sub 1000002 0 1 0 5), (17, .r (.v (.int .i64 5))), (18, .r (.v (.int .i64 3)))], [(1000000, 0, .var 140 ((rvs (enc T17 y0)) ++ [.own 1000001 0])), (1000001, 0, .row 54 T18 y1), (1000002, 0, .var 1 [.fn ((Fn.func 37)) [.ptr 1000000 0 0] [], .fn ((Fn.func 35)) [.ptr 1000000 0 0] [], .fn ((Fn.func 48)) [.ptr 1000000 0 0] [], .fn ((Fn.func 57)) [.ptr 1000000 0 0] [], .fn ((Fn.func 60)) [.ptr 1000000 0 0] []])]⟩
def st_u20_50005 (y0 : T17.T) (y1 : List (T18).T) : St := ⟨mkS 29 [(6, .ptr 1000000 0 0), (16, .sub 1000002 0 1 0 5), (17, .r (.v (.int .i64 5))), (18, .r (.v (.int .i64 4)))], [(1000000, 0, .var 140 ((rvs (enc T17 y0)) ++ [.own 1000001 0])), (1000001, 0, .row 54 T18 y1), (1000002, 0, .var 1 [.fn ((Fn.func 37)) [.ptr 1000000 0 0] [], .fn ((Fn.func 35)) [.ptr 1000000 0 0] [], .fn ((Fn.func 48)) [.ptr 1000000 0 0] [], .fn ((Fn.func 57)) [.ptr 1000000 0 0] [], .fn ((Fn.func 60)) [.ptr 1000000 0 0] []])]⟩
def st_u20_60005 (y0 : T17.T) (y1 : List (T18).T) : St := ⟨mkS 29 [(6, .ptr 1000000 0 0), (16, .sub 1000002 0 1 0 5), (17, .r (.v (.int .i64 5))), (18, .r (.v (.int .i64 5)))], [(1000000, 0, .var 140 ((rvs (enc T17 y0)) ++ [.own 1000001 0])), (1000001, 0, .row 54 T18 y1), (1000002, 0, .var 1 [.fn ((Fn.func 37)) [.ptr 1000000 0 0] [], .fn ((Fn.func 35)) [.ptr 1000000 0 0] [], .fn ((Fn.func 48)) [.ptr 1000000 0 0] [], .fn ((Fn.func 57)) [.ptr 1000000 0 0] [], .fn ((Fn.func 60)) [.ptr 1000000 0 0] []])]⟩
mutual
def f_u20_10005 (k : Nat) : Nat → T17.T → List (T18).T → Option R_u20
  | 0, _, _ => none
  | j + 1, y0, y1 =>
  if ((0 : Int) ≤ (0 : Int)) ∧ ((0 : Int) < (↑ (5 : Nat) : Int)) then
  if ((f_u16 k y0 y1).isSome = true) then
  f_u20_20005 k j ((v_u16 k y0 y1).1) ((v_u16 k y0 y1).2)
  else none
  else none
def f_u20_20005 (k : Nat) : Nat → T17.T → List (T18).T → Option R_u20
  | 0, _, _ => none
  | j + 1, y0, y1 =>
  if ((0 : Int) ≤ (1 : Int)) ∧ ((1 : Int) < (↑ (5 : Nat) : Int)) then
  if ((f_u14 k y0 y1).isSome = true) then
  f_u20_30005 k j ((v_u14 k y0 y1).1) ((v_u14 k y0 y1).2)
  else none
  else none
def f_u20_30005 (k : Nat) : Nat → T17.T → List (T18).T → Option R_u20
  | 0, _, _ => none
  | j + 1, y0, y1 =>
  if ((0 : Int) ≤ (2 : Int)) ∧ ((2 : Int) < (↑ (5 : Nat) : Int)) then
  if ((f_u13 k y0 y1).isSome = true) then
  f_u20_40005 k j ((v_u13 k y0 y1).1) ((v_u13 k y0 y1).2)
  else none
  else none
def f_u20_40005 (k : Nat) : Nat → T17.T → List (T18).T → Option R_u20
  | 0, _, _ => none
  | j + 1, y0, y1 =>
  if ((0 : Int) ≤ (3 : Int)) ∧ ((3 : Int) < (↑ (5 : Nat) : Int)) then
  if ((f_u9 k y0 y1).isSome = true) then
  f_u20_50005 k j ((v_u9 k y0 y1).1) ((v_u9 k y0 y1).2)
  else none
  else none
def f_u20_50005 (k : Nat) : Nat → T17.T → List (T18).T → Option R_u20
  | 0, _, _ => none
  | j + 1, y0, y1 =>
  if ((0 : Int) ≤ (4 : Int)) ∧ ((4 : Int) < (↑ (5 : Nat) : Int)) then
  if ((f_u12 k y0 y1).isSome = true) then
  f_u20_60005 k j ((v_u12 k y0 y1).1) ((v_u12 k y0 y1).2)
  else none
  else none
def f_u20_60005 (k : Nat) : Nat → T17.T → List (T18).T → Option R_u20
  | 0, _, _ => none
  | j + 1, y0, y1 =>
  some ((y1, 0))
end
def f_u20 (k : Nat) (b_ : T17.T) : Option R_u20 :=
  if ((f_u17 k b_).isSome = true) then
  bif (v_u17 k b_) then
  some (([], 8))
  else
  if ((f_u2 k b_ []).isSome = true) then
  f_u20_10005 k k ((v_u2 k b_ [])) ([])
  else none
  else none
def v_u20 (k : Nat) (b_ : T17.T) : R_u20 := (f_u20 k b_).getD ([], 0)
def ke_u20 (k : Nat) : Ke := (33, fun xs => match xs with
  | [_, .r (.v (.func (.func 66) _ _))] => some [false, false]
  | _ => none, fun xs bs => match xs, bs with
  | [.agg qb_, .r (.v (.func (.func 66) _ _))], [] => (decS [] T17 qb_).bind fun b_ => some (.one (res_u20 (v_u20 k b_), bo_u20 b_ (v_u20 k b_)))
  | _, _ => none)
def K_u20 (k : Nat) : Calld := mkK [ke_u17 k, ke_u14 k, ke_u16 k, ke_u13 k, ke_u9 k, ke_u12 k, ke_u2 k]
def cs_u20 : List (Nat × List Cmd) := [(5, [.key 18, .autoB [6, 16, 17, 18] false []])]
abbrev E_u20 (b_ : T17.T) (todo : List Item) (st : St) (o : Option R_u20) : Prop := ∀ r, o = some r → Ev Tryz.prog Tryz.f33 0 todo st (res_u20 r) (bo_u20 b_ r)
theorem ev_u20 (k : Nat) (b_ : T17.T) : ∀ j, (∀ (y0 : T17.T) (y1 : List (T18).T), E_u20 b_ (placeAt Tryz.f33 5) (st_u20_10005 y0 y1) (f_u20_10005 k j y0 y1)) ∧ (∀ (y0 : T17.T) (y1 : List (T18).T), E_u20 b_ (placeAt Tryz.f33 5) (st_u20_20005 y0 y1) (f_u20_20005 k j y0 y1)) ∧ (∀ (y0 : T17.T) (y1 : List (T18).T), E_u20 b_ (placeAt Tryz.f33 5) (st_u20_30005 y0 y1) (f_u20_30005 k j y0 y1)) ∧ (∀ (y0 : T17.T) (y1 : List (T18).T), E_u20 b_ (placeAt Tryz.f33 5) (st_u20_40005 y0 y1) (f_u20_40005 k j y0 y1)) ∧ (∀ (y0 : T17.T) (y1 : List (T18).T), E_u20 b_ (placeAt Tryz.f33 5) (st_u20_50005 y0 y1) (f_u20_50005 k j y0 y1)) ∧ (∀ (y0 : T17.T) (y1 : List (T18).T), E_u20 b_ (placeAt Tryz.f33 5) (st_u20_60005 y0 y1) (f_u20_60005 k j y0 y1))
  | 0 => ⟨fun _ _ _ h => (nomatch h), fun _ _ _ h => (nomatch h), fun _ _ _ h => (nomatch h), fun _ _ _ h => (nomatch h), fun _ _ _ h => (nomatch h), fun _ _ _ h => (nomatch h)⟩
  | j + 1 => by
    have ih := @ev_u20 k b_ j
    refine ⟨?_, ?_, ?_, ?_, ?_, ?_⟩
    · intro y0 y1 r h
      rw [f_u20_10005] at h
      exact go (K_u20 k) [] cs_u20 [.frz 4 false (RTy.list T18), .autoB [4, 5] true []] (gU1 h (.leaf (.tup [.r (.ro T18 y1), .r (.v (.int .i64 0))]) []) fun h => gN2 h fun h => gN1 h (fun q => cc_u16 q) fun h => gC h 20005 (ih.2.1 _ _ _)) (by kernel_rfl)
    · intro y0 y1 r h
      rw [f_u20_20005] at h
      exact go (K_u20 k) [] cs_u20 [.frz 4 false (RTy.list T18), .autoB [4, 5] true []] (gU1 h (.leaf (.tup [.r (.ro T18 y1), .r (.v (.int .i64 0))]) []) fun h => gN2 h fun h => gN1 h (fun q => cc_u14 q) fun h => gC h 30005 (ih.2.2.1 _ _ _)) (by kernel_rfl)
    · intro y0 y1 r h
      rw [f_u20_30005] at h
      exact go (K_u20 k) [] cs_u20 [.frz 4 false (RTy.list T18), .autoB [4, 5] true []] (gU1 h (.leaf (.tup [.r (.ro T18 y1), .r (.v (.int .i64 0))]) []) fun h => gN2 h fun h => gN1 h (fun q => cc_u13 q) fun h => gC h 40005 (ih.2.2.2.1 _ _ _)) (by kernel_rfl)
    · intro y0 y1 r h
      rw [f_u20_40005] at h
      exact go (K_u20 k) [] cs_u20 [.frz 4 false (RTy.list T18), .autoB [4, 5] true []] (gU1 h (.leaf (.tup [.r (.ro T18 y1), .r (.v (.int .i64 0))]) []) fun h => gN2 h fun h => gN1 h (fun q => cc_u9 q) fun h => gC h 50005 (ih.2.2.2.2.1 _ _ _)) (by kernel_rfl)
    · intro y0 y1 r h
      rw [f_u20_50005] at h
      exact go (K_u20 k) [] cs_u20 [.frz 4 false (RTy.list T18), .autoB [4, 5] true []] (gU1 h (.leaf (.tup [.r (.ro T18 y1), .r (.v (.int .i64 0))]) []) fun h => gN2 h fun h => gN1 h (fun q => cc_u12 q) fun h => gC h 60005 (ih.2.2.2.2.2 _ _ _)) (by kernel_rfl)
    · intro y0 y1 r h
      rw [f_u20_60005] at h
      exact go (K_u20 k) [] cs_u20 [.frz 4 false (RTy.list T18), .autoB [4, 5] true []] (gU2 h (.stuck 5001) fun h => gL h) (by kernel_rfl)
theorem of_u20 (k : Nat) (b_ : T17.T) (r : R_u20) (h : f_u20 k b_ = some r) : C_u20 b_ r := by
  refine CC.of (fn := Tryz.f33) (by kernel_rfl) (by kernel_rfl) (by kernel_rfl) (by kernel_rfl) ?_
  unfold f_u20 at h
  exact go (K_u20 k) [] cs_u20 [.frz 4 false (RTy.list T18), .autoB [4, 5] true []] (gN1 h (fun q => cc_u17 q) fun h => gT h (fun c h => gL h) fun c h => gN1 h (fun q => cc_u2 q) fun h => gC h 10005 ((ev_u20 k b_ k).1 _ _ _)) (by kernel_rfl)
theorem cc_u20 {k : Nat} {b_ : T17.T} (h : (f_u20 k b_).isSome = true) : C_u20 b_ (v_u20 k b_) := ccG (Φ := C_u20 b_) h (of_u20 k b_)
abbrev R_u1 : Type := List (T18).T × Int
def res_u1 (r : R_u1) : AV := .tup [.r (.ro T18 r.1), .r (.v (.int .i64 r.2))]
def bo_u1 (b_ : T17.T) (r : R_u1) : List (Nat × Blk) := []
def args_u1 (b_ : T17.T) : List AV := [.agg (rvs (enc T17 b_))]
def bin_u1 (b_ : T17.T) : List Blk := []
abbrev C_u1 (b_ : T17.T) (r : R_u1) : Prop := CC Tryz.prog 28 (args_u1 b_) (bin_u1 b_) (res_u1 r) (bo_u1 b_ r)
def f_u1 (k : Nat) (b_ : T17.T) : Option R_u1 :=
  if ((f_u20 k b_).isSome = true) then
  some (((v_u20 k b_).1, (v_u20 k b_).2))
  else none
def v_u1 (k : Nat) (b_ : T17.T) : R_u1 := (f_u1 k b_).getD ([], 0)
def ke_u1 (k : Nat) : Ke := (28, fun xs => match xs with
  | [_] => some [false]
  | _ => none, fun xs bs => match xs, bs with
  | [.agg qb_], [] => (decS [] T17 qb_).bind fun b_ => some (.one (res_u1 (v_u1 k b_), bo_u1 b_ (v_u1 k b_)))
  | _, _ => none)
theorem of_u1 (k : Nat) (b_ : T17.T) (r : R_u1) (h : f_u1 k b_ = some r) : C_u1 b_ r := by
  refine CC.of (fn := Tryz.f28) (by kernel_rfl) (by kernel_rfl) (by kernel_rfl) (by kernel_rfl) ?_
  unfold f_u1 at h
  exact go (mkK [ke_u2 k, ke_u20 k]) [] [] [.frz 2 false (RTy.list T18), .autoB [2, 3] true []] (gN1 h (fun q => cc_u20 q) fun h => gL h) (by kernel_rfl)
theorem cc_u1 {k : Nat} {b_ : T17.T} (h : (f_u1 k b_).isSome = true) : C_u1 b_ (v_u1 k b_) := ccG (Φ := C_u1 b_) h (of_u1 k b_)
abbrev R_u46 : Type := T17.T
def res_u46 (r : R_u46) : AV := .agg (rvs (enc T17 r))
def bo_u46 (used_ : Int) (r : R_u46) : List (Nat × Blk) := []
def args_u46 (used_ : Int) : List AV := [.r (.v (.int .i64 used_))]
def bin_u46 (used_ : Int) : List Blk := []
abbrev C_u46 (used_ : Int) (r : R_u46) : Prop := CC Tryz.prog 32 (args_u46 used_) (bin_u46 used_) (res_u46 r) (bo_u46 used_ r)
def f_u46 (k : Nat) (used_ : Int) : Option R_u46 :=
  some ((0, (10, (100, (100, (10, (0, (0, ([], ([], ([(0, 100, 1, 0, 0)], ([], ([(1, 0, 0, 10, false, [(0, 100, false)])], ([used_], ([], ([], ([], ([], ([], ([], ([], ([], []))))))))))))))))))))))
def v_u46 (k : Nat) (used_ : Int) : R_u46 := (f_u46 k used_).getD (T17).dflt
def ke_u46 (k : Nat) : Ke := (32, fun xs => match xs with
  | [_] => some [false]
  | _ => none, fun xs bs => match xs, bs with
  | [.r (.v (.int .i64 used_))], [] => some (.one (res_u46 (v_u46 k used_), bo_u46 used_ (v_u46 k used_)))
  | _, _ => none)
theorem of_u46 (k : Nat) (used_ : Int) (r : R_u46) (h : f_u46 k used_ = some r) : C_u46 used_ r := by
  refine CC.of (fn := Tryz.f32) (by kernel_rfl) (by kernel_rfl) (by kernel_rfl) (by kernel_rfl) ?_
  unfold f_u46 at h
  exact go (mkK []) [] [] [.frz 2 true T17, .autoB [2] true []] (gL h) (by kernel_rfl)
theorem cc_u46 {k : Nat} {used_ : Int} (h : (f_u46 k used_).isSome = true) : C_u46 used_ (v_u46 k used_) := ccG (Φ := C_u46 used_) h (of_u46 k used_)
def bs_H62_u43_0 : ByteArray := ByteArray.mk #[114, 111, 108, 108, 32, 55, 58, 32, 101, 114, 114, 111, 114, 32, 49]
abbrev R_u43 : Type := Bool
def res_u43 (r : R_u43) : AV := .r (.v (.bool r))
def bo_u43  (r : R_u43) : List (Nat × Blk) := []
def args_u43  : List AV := []
def bin_u43  : List Blk := []
abbrev C_u43  (r : R_u43) : Prop := CC Tryz.prog 13 (args_u43 ) (bin_u43 ) (res_u43 r) (bo_u43  r)
def f_u43 (k : Nat)  : Option R_u43 :=
  if ((f_u46 k 0).isSome = true) ∧ ((f_u1 k (v_u46 k 0)).isSome = true) then
  if ((f_u46 k 30).isSome = true) ∧ ((f_u3 k (v_u46 k 30)).isSome = true) then
  if ((f_u46 k 0).isSome = true) then
  if ((f_u6 k ((v_u46 k 0).1, (v_u46 k 0).2.1, (v_u46 k 0).2.2.1, (v_u46 k 0).2.2.2.1, (v_u46 k 0).2.2.2.2.1, (v_u46 k 0).2.2.2.2.2.1, (v_u46 k 0).2.2.2.2.2.2.1, (v_u46 k 0).2.2.2.2.2.2.2.1, (v_u46 k 0).2.2.2.2.2.2.2.2.1, (v_u46 k 0).2.2.2.2.2.2.2.2.2.1, (v_u46 k 0).2.2.2.2.2.2.2.2.2.2.1, [], [], (v_u46 k 0).2.2.2.2.2.2.2.2.2.2.2.2.2)).isSome = true) then
  if ((f_u5 k (3, 7, 1)).isSome = true) then
  bif ((v_u1 k (v_u46 k (0 : Int))).2 != (0 : Int) || (v_u3 k (v_u46 k (30 : Int))).2 != (0 : Int) || (v_u6 k ((v_u46 k (0 : Int)).1, (v_u46 k (0 : Int)).2.1, (v_u46 k (0 : Int)).2.2.1, (v_u46 k (0 : Int)).2.2.2.1, (v_u46 k (0 : Int)).2.2.2.2.1, (v_u46 k (0 : Int)).2.2.2.2.2.1, (v_u46 k (0 : Int)).2.2.2.2.2.2.1, (v_u46 k (0 : Int)).2.2.2.2.2.2.2.1, (v_u46 k (0 : Int)).2.2.2.2.2.2.2.2.1, (v_u46 k (0 : Int)).2.2.2.2.2.2.2.2.2.1, (v_u46 k (0 : Int)).2.2.2.2.2.2.2.2.2.2.1, [], [], (v_u46 k (0 : Int)).2.2.2.2.2.2.2.2.2.2.2.2.2)).2 != (0 : Int) || (v_u5 k ((3 : Int), (7 : Int), (1 : Int))).2 != (0 : Int) || (↑ (v_u1 k (v_u46 k (0 : Int))).1.length : Int) != (0 : Int) || (↑ (v_u3 k (v_u46 k (30 : Int))).1.length : Int) != (1 : Int) || (↑ (v_u6 k ((v_u46 k (0 : Int)).1, (v_u46 k (0 : Int)).2.1, (v_u46 k (0 : Int)).2.2.1, (v_u46 k (0 : Int)).2.2.2.1, (v_u46 k (0 : Int)).2.2.2.2.1, (v_u46 k (0 : Int)).2.2.2.2.2.1, (v_u46 k (0 : Int)).2.2.2.2.2.2.1, (v_u46 k (0 : Int)).2.2.2.2.2.2.2.1, (v_u46 k (0 : Int)).2.2.2.2.2.2.2.2.1, (v_u46 k (0 : Int)).2.2.2.2.2.2.2.2.2.1, (v_u46 k (0 : Int)).2.2.2.2.2.2.2.2.2.2.1, [], [], (v_u46 k (0 : Int)).2.2.2.2.2.2.2.2.2.2.2.2.2)).1.length : Int) != (1 : Int)) then
  some false
  else
  if ((0 : Int) ≤ (0 : Int)) ∧ ((0 : Int) < (↑ (v_u3 k (v_u46 k (30 : Int))).1.length : Int)) ∧ (eqT T18 ((v_u3 k (v_u46 k (30 : Int))).1.getD (Int.toNat (0 : Int)) T18.dflt) ((4 : Int), (-300 : Int), (0 : Int)) = true → (0 : Int) ≤ (0 : Int)) ∧ (eqT T18 ((v_u3 k (v_u46 k (30 : Int))).1.getD (Int.toNat (0 : Int)) T18.dflt) ((4 : Int), (-300 : Int), (0 : Int)) = true → (0 : Int) < (↑ (v_u6 k ((v_u46 k (0 : Int)).1, (v_u46 k (0 : Int)).2.1, (v_u46 k (0 : Int)).2.2.1, (v_u46 k (0 : Int)).2.2.2.1, (v_u46 k (0 : Int)).2.2.2.2.1, (v_u46 k (0 : Int)).2.2.2.2.2.1, (v_u46 k (0 : Int)).2.2.2.2.2.2.1, (v_u46 k (0 : Int)).2.2.2.2.2.2.2.1, (v_u46 k (0 : Int)).2.2.2.2.2.2.2.2.1, (v_u46 k (0 : Int)).2.2.2.2.2.2.2.2.2.1, (v_u46 k (0 : Int)).2.2.2.2.2.2.2.2.2.2.1, [], [], (v_u46 k (0 : Int)).2.2.2.2.2.2.2.2.2.2.2.2.2)).1.length : Int)) then
  some (eqT T18 ((v_u3 k (v_u46 k 30)).1.getD (Int.toNat 0) T18.dflt) (4, (-300), 0) && eqT T18 ((v_u6 k ((v_u46 k 0).1, (v_u46 k 0).2.1, (v_u46 k 0).2.2.1, (v_u46 k 0).2.2.2.1, (v_u46 k 0).2.2.2.2.1, (v_u46 k 0).2.2.2.2.2.1, (v_u46 k 0).2.2.2.2.2.2.1, (v_u46 k 0).2.2.2.2.2.2.2.1, (v_u46 k 0).2.2.2.2.2.2.2.2.1, (v_u46 k 0).2.2.2.2.2.2.2.2.2.1, (v_u46 k 0).2.2.2.2.2.2.2.2.2.2.1, [], [], (v_u46 k 0).2.2.2.2.2.2.2.2.2.2.2.2.2)).1.getD (Int.toNat 0) T18.dflt) (2, 0, 0) && (v_u5 k (3, 7, 1)).1.toList == bs_H62_u43_0.toList)
  else none
  else none
  else none
  else none
  else none
  else none
def v_u43 (k : Nat)  : R_u43 := (f_u43 k ).getD false
def ke_u43 (k : Nat) : Ke := (13, fun xs => match xs with
  | [] => some []
  | _ => none, fun xs bs => match xs, bs with
  | [], [] => some (.one (res_u43 (v_u43 k ), bo_u43  (v_u43 k )))
  | _, _ => none)
theorem of_u43 (k : Nat)  (r : R_u43) (h : f_u43 k  = some r) : C_u43  r := by
  refine CC.of (fn := Tryz.f13) (by kernel_rfl) (by kernel_rfl) (by kernel_rfl) (by kernel_rfl) ?_
  unfold f_u43 at h
  exact go (mkK [ke_u3 k, ke_u6 k, ke_u5 k, ke_u1 k, ke_u46 k]) [] [] [.autoB [0] true []] (gN h (fun q => conjC (cc_u46 q.1) (conjC (cc_u1 q.2) conj0)) fun h => gN h (fun q => conjC (cc_u46 q.1) (conjC (cc_u3 q.2) conj0)) fun h => gN1 h (fun q => cc_u46 q) fun h => gN1 h (fun q => cc_u6 q) fun h => gN1 h (fun q => cc_u5 q) fun h => gT h (fun c h => gL h) fun c h => gN h (fun q => conjC q.1 (conjC q.2.1 (conjC q.2.2.1 (conjC q.2.2.2 conj0)))) fun h => gL h) (by kernel_rfl)
theorem cc_u43 {k : Nat}  (h : (f_u43 k ).isSome = true) : C_u43  (v_u43 k ) := ccG (Φ := C_u43 ) h (of_u43 k )
abbrev R_u44 : Type := Bool
def res_u44 (r : R_u44) : AV := .r (.v (.bool r))
def bo_u44 (a_ : List (T18).T) (b_ : List (T18).T) (r : R_u44) : List (Nat × Blk) := []
def args_u44 (a_ : List (T18).T) (b_ : List (T18).T) : List AV := [.r (.ro T18 a_), .r (.ro T18 b_)]
def bin_u44 (a_ : List (T18).T) (b_ : List (T18).T) : List Blk := []
abbrev C_u44 (a_ : List (T18).T) (b_ : List (T18).T) (r : R_u44) : Prop := CC Tryz.prog 17 (args_u44 a_ b_) (bin_u44 a_ b_) (res_u44 r) (bo_u44 a_ b_ r)
def st_u44_4 (y0 : List (T18).T) (y1 : List (T18).T) (y2 : Int) (y3 : Int) : St := ⟨mkS 26 [(0, .r (.ro T18 y0)), (1, .r (.ro T18 y1)), (12, .r (.v (.int .i64 y2))), (13, .r (.v (.int .i64 y3)))], []⟩
def f_u44_4 (k : Nat) : Nat → List (T18).T → List (T18).T → Int → Int → Option R_u44
  | 0, _, _, _, _ => none
  | j + 1, y0, y1, y2, y3 =>
  bif (decide (y3 < y2)) then
  if (0 ≤ y3) ∧ (y3 < (↑y0.length : Int)) ∧ (0 ≤ y3) ∧ (y3 < (↑y1.length : Int)) then
  bif (!eqT T18 (y0.getD y3.toNat T18.dflt) (y1.getD y3.toNat T18.dflt)) then
  some false
  else
  f_u44_4 k j y0 y1 y2 ((IntKind.i64.wrap (y3 + 1)))
  else none
  else
  some true
def f_u44 (k : Nat) (a_ : List (T18).T) (b_ : List (T18).T) : Option R_u44 :=
  bif ((↑a_.length : Int) != (↑b_.length : Int)) then
  some false
  else
  f_u44_4 k k a_ b_ ((↑a_.length : Int)) 0
def v_u44 (k : Nat) (a_ : List (T18).T) (b_ : List (T18).T) : R_u44 := (f_u44 k a_ b_).getD false
def ke_u44 (k : Nat) : Ke := (17, fun xs => match xs with
  | [_, _] => some [false, false]
  | _ => none, fun xs bs => match xs, bs with
  | [.r (.ro ta__ qa_), .r (.ro tb__ qb_)], [] => (castL ta__ T18 qa_).bind fun a_ => (castL tb__ T18 qb_).bind fun b_ => some (.one (res_u44 (v_u44 k a_ b_), bo_u44 a_ b_ (v_u44 k a_ b_)))
  | _, _ => none)
def cs_u44 : List (Nat × List Cmd) := [(4, [.autoB [0, 1, 12, 13] false []])]
abbrev E_u44 (a_ : List (T18).T) (b_ : List (T18).T) (todo : List Item) (st : St) (o : Option R_u44) : Prop := ∀ r, o = some r → Ev Tryz.prog Tryz.f17 0 todo st (res_u44 r) (bo_u44 a_ b_ r)
theorem ev_u44 (k : Nat) (a_ : List (T18).T) (b_ : List (T18).T) : ∀ j, (∀ (y0 : List (T18).T) (y1 : List (T18).T) (y2 : Int) (y3 : Int), E_u44 a_ b_ (placeAt Tryz.f17 4) (st_u44_4 y0 y1 y2 y3) (f_u44_4 k j y0 y1 y2 y3))
  | 0 => fun _ _ _ _ _ h => (nomatch h)
  | j + 1 => by
    have ih := @ev_u44 k a_ b_ j
    · intro y0 y1 y2 y3 r h
      rw [f_u44_4] at h
      exact go (mkK []) [] cs_u44 [.autoB [4] true []] (gT h (fun c h => gN h (fun q => conjC q.1 (conjC q.2.1 (conjC q.2.2.1 (conjC q.2.2.2 conj0)))) fun h => gT h (fun c h => gL h) fun c h => gC h 4 (ih _ _ _ _ _)) fun c h => gL h) (by kernel_rfl)
theorem of_u44 (k : Nat) (a_ : List (T18).T) (b_ : List (T18).T) (r : R_u44) (h : f_u44 k a_ b_ = some r) : C_u44 a_ b_ r := by
  refine CC.of (fn := Tryz.f17) (by kernel_rfl) (by kernel_rfl) (by kernel_rfl) (by kernel_rfl) ?_
  unfold f_u44 at h
  exact go (mkK []) [] cs_u44 [.autoB [4] true []] (gT h (fun c h => gL h) fun c h => gC h 4 ((ev_u44 k a_ b_ k) _ _ _ _ _)) (by kernel_rfl)
theorem cc_u44 {k : Nat} {a_ : List (T18).T} {b_ : List (T18).T} (h : (f_u44 k a_ b_).isSome = true) : C_u44 a_ b_ (v_u44 k a_ b_) := ccG (Φ := C_u44 a_ b_) h (of_u44 k a_ b_)
abbrev R_u41 : Type := Bool
def res_u41 (r : R_u41) : AV := .r (.v (.bool r))
def bo_u41 (b_ : T17.T) (r : R_u41) : List (Nat × Blk) := []
def args_u41 (b_ : T17.T) : List AV := [.agg (rvs (enc T17 b_))]
def bin_u41 (b_ : T17.T) : List Blk := []
abbrev C_u41 (b_ : T17.T) (r : R_u41) : Prop := CC Tryz.prog 5 (args_u41 b_) (bin_u41 b_) (res_u41 r) (bo_u41 b_ r)
def f_u41 (k : Nat) (b_ : T17.T) : Option R_u41 :=
  if ((f_u45 k b_).isSome = true) then
  bif (v_u45 k b_) then
  if ((f_u43 k ).isSome = true) then
  some (v_u43 k)
  else none
  else
  if ((f_u3 k b_).isSome = true) then
  if ((f_u74 k b_).isSome = true) then
  bif ((v_u3 k b_).2 == (v_u74 k b_).2) then
  bif (true && v_u44 k (v_u3 k b_).1 (v_u74 k b_).1) then
  if (((v_u3 k b_).2 == (v_u74 k b_).2) = true) ∧ ((f_u44 k (v_u3 k b_).1 (v_u74 k b_).1).isSome = true) ∧ ((true && v_u44 k (v_u3 k b_).1 (v_u74 k b_).1) = true) ∧ ((f_u43 k ).isSome = true) then
  some (true && v_u43 k)
  else none
  else
  if (((v_u3 k b_).2 == (v_u74 k b_).2) = true) ∧ ((f_u44 k (v_u3 k b_).1 (v_u74 k b_).1).isSome = true) ∧ ((true && v_u44 k (v_u3 k b_).1 (v_u74 k b_).1) = false) then
  some false
  else none
  else
  if (((v_u3 k b_).2 == (v_u74 k b_).2) = false) ∧ (false = false) then
  some false
  else none
  else none
  else none
  else none
theorem of_u41 (k : Nat) (b_ : T17.T) (r : R_u41) (h : f_u41 k b_ = some r) : C_u41 b_ r := by
  refine CC.of (fn := Tryz.f5) (by kernel_rfl) (by kernel_rfl) (by kernel_rfl) (by kernel_rfl) ?_
  unfold f_u41 at h
  exact go (mkK [ke_u45 k, ke_u3 k, ke_u43 k, ke_u44 k, ke_u74 k]) [] [] [.autoB [2] true []] (gN1 h (fun q => cc_u45 q) fun h => gT h (fun c h => gN1 h (fun q => cc_u43 q) fun h => gL h) fun c h => gN1 h (fun q => cc_u3 q) fun h => gN1 h (fun q => cc_u74 q) fun h => gT h (fun c h => gT h (fun c h => gN h (fun q => conjC q.1 (conjC (cc_u44 q.2.1) (conjC q.2.2.1 (conjC (cc_u43 q.2.2.2) conj0)))) fun h => gL h) fun c h => gN h (fun q => conjC q.1 (conjC (cc_u44 q.2.1) (conjC q.2.2 conj0))) fun h => gL h) fun c h => gU2 h (.need [((v_u3 k b_).2 == (v_u74 k b_).2) = false, false = true, CC Tryz.prog 13 (args_u43 ) (bin_u43 ) (res_u43 (v_u43 k )) (bo_u43  (v_u43 k ))] (.leaf (.r (.v (.bool ((true && v_u43 k))))) [])) fun h => gN2 h fun h => gL h) (by kernel_rfl)
end
end Go.AM
namespace Go.AM
open Go Go.Proofs
noncomputable section
end
/-! ### the law of Web -/
theorem eqT_fd (p : Fnd) : eqT T18 p p = true := by
  show ((p.1 == p.1) && ((p.2.1 == p.2.1) && (p.2.2 == p.2.2))) = true
  rw [beq_self_eq_true, beq_self_eq_true, beq_self_eq_true]; rfl
theorem findings_4 (k : Nat) (l : List Fnd) (hl : l.length ≤ 1000000) : ∀ (d i j : Nat), i + d = l.length → d < j → f_u44_4 k j l l (l.length : Int) (i : Int) = some true := by
  intro d
  induction d with
  | zero =>
    intro i j hi hj
    obtain ⟨j, rfl⟩ : ∃ q, j = q + 1 := ⟨j - 1, by omega⟩
    rw [f_u44_4, decide_eq_false (by omega : ¬ (i : Int) < (l.length : Int)), cond_false]
  | succ d ih =>
    intro i j hi hj
    obtain ⟨j, rfl⟩ : ∃ q, j = q + 1 := ⟨j - 1, by omega⟩
    rw [f_u44_4, decide_eq_true (by omega : (i : Int) < (l.length : Int)), cond_true, if_pos ⟨by omega, by omega, by omega, by omega⟩, wrapS i (by omega), eqT_fd]
    exact ih (i + 1) j (by omega) (by omega)
theorem findings_s (k : Nat) (l : List Fnd) (hl : l.length ≤ 1000000) (hk : l.length < k) : f_u44 k l l = some true := by
  unfold f_u44
  rw [bne_self_eq_false, cond_false]
  exact findings_4 k l hl l.length 0 k (by omega) (by omega)
theorem findings_v (k : Nat) (l : List Fnd) (hl : l.length ≤ 1000000) (hk : l.length < k) : v_u44 k l l = true := by
  unfold v_u44; rw [findings_s k l hl hk]; rfl
theorem great_w (k : Nat) (hk : 100 ≤ k) (b : T17.T) (hw : Wf T17 b) : ∃ r : Bool, f_u45 k b = some r ∧ (r = false → GB b) :=
  great_s k hk b (hw.2.2.2.2.2.2.2.2.2.2.2.2.2.2.2.1).1 (hw.2.2.2.2.2.2.2.2.2.2.2.2.2.2.2.2.2.1).1 (hw.2.2.2.2.2.2.2.2.2.2.2.1).1 (hw.2.2.2.2.2.2.2.2.1).1
theorem awake_t : f_u43 400000 = some true := by kernel_rfl
/-! ### Rolls: the reference -/
theorem lowestR_3 (k : Nat) (m : List Rn) (hg : goods m) (hl : m.length ≤ 1000) : ∀ (d i j : Nat) (a : Int), i + d = m.length → d < j → 0 ≤ a → a ≤ 17179869184 →
    f_u78_3 k j m a (i : Int) = some (lowF a (m.drop i)) := by
  intro d
  induction d with
  | zero =>
    intro i j a hi hj h0 h1
    obtain ⟨j, rfl⟩ : ∃ q, j = q + 1 := ⟨j - 1, by omega⟩
    rw [f_u78_3, decide_eq_false (by omega : ¬ (i : Int) < (m.length : Int)), cond_false, List.drop_of_length_le (by omega), lowF]
  | succ d ih =>
    intro i j a hi hj h0 h1
    obtain ⟨j, rfl⟩ : ∃ q, j = q + 1 := ⟨j - 1, by omega⟩
    have hm := goods.mem hg _ (gdm m i T3.dflt (by omega))
    have hlo := loR_in hm
    obtain ⟨g1, g2, g3, g4, g5, g6⟩ := hm
    have h3 : (0 : Int) ≤ (i : Int) := by omega
    have h4 : (i : Int) < (m.length : Int) := by omega
    rw [f_u78_3, decide_eq_true h4, cond_true, if_pos ⟨h3, h4⟩, if_pos ⟨h3, h4⟩, if_pos ⟨h3, h4, h3, h4⟩, Int.toNat_natCast, wrapS i (by omega), drop_cons' m i T3.dflt (by omega), lowF]
    have hw1 : IntKind.i64.wrap ((m.getD i T3.dflt).1 - (m.getD i T3.dflt).2.1) = (m.getD i T3.dflt).1 - (m.getD i T3.dflt).2.1 := wrap_id (by omega) (by omega)
    have hw2 : IntKind.i64.wrap ((m.getD i T3.dflt).1 - (m.getD i T3.dflt).2.1 + 1) = (m.getD i T3.dflt).1 - (m.getD i T3.dflt).2.1 + 1 := wrap_id (by omega) (by omega)
    rw [hw1, hw2]
    have hx : (bif (m.getD i T3.dflt).2.2 then (if (m.getD i T3.dflt).1 - (m.getD i T3.dflt).2.1 + 1 < a then (m.getD i T3.dflt).1 - (m.getD i T3.dflt).2.1 + 1 else a) else (if (m.getD i T3.dflt).1 < a then (m.getD i T3.dflt).1 else a)) = min a (loR (m.getD i T3.dflt)) := by
      unfold loR
      cases e : (m.getD i T3.dflt).2.2
      · rw [cond_false, cond_false]; split <;> omega
      · rw [cond_true, cond_true]; split <;> omega
    have := ih (i + 1) j (min a (loR (m.getD i T3.dflt))) (by omega) (by omega) (by omega) (by omega)
    rw [← this, ← hx]
    cases (m.getD i T3.dflt).2.2 <;> rfl
theorem lowestR_s (k : Nat) (hk : 1100 ≤ k) (m : List Rn) (h : Chk m) : f_u78 k m = some (lowS m) := by
  have := h.len
  exact lowestR_3 k m h.goods (by omega) m.length 0 k 17179869184 (by omega) (by omega) (by omega) (by omega)
theorem lowestR_v (k : Nat) (hk : 1100 ≤ k) (m : List Rn) (h : Chk m) : v_u78 k m = lowS m := by
  unfold v_u78; rw [lowestR_s k hk m h]; rfl
theorem has_2 (k : Nat) (l : List Int) (x : Int) (n : Nat) (hn : n ≤ l.length) (hb : n ≤ 100000) : ∀ (d i j : Nat), i + d = n → d < j → f_u77_2 k j l (n : Int) x (i : Int) = some (isIn x ((l.drop i).take d)) := by
  intro d
  induction d with
  | zero =>
    intro i j hi hj
    obtain ⟨j, rfl⟩ : ∃ q, j = q + 1 := ⟨j - 1, by omega⟩
    rw [f_u77_2, decide_eq_false (by omega : ¬ (i : Int) < (n : Int)), cond_false, List.take_zero]; rfl
  | succ d ih =>
    intro i j hi hj
    obtain ⟨j, rfl⟩ : ∃ q, j = q + 1 := ⟨j - 1, by omega⟩
    rw [f_u77_2, decide_eq_true (by omega : (i : Int) < (n : Int)), cond_true, if_pos ⟨by omega, by omega⟩, Int.toNat_natCast, wrapS i (by omega), drop_cons' l i I.dflt (by omega), List.take_succ_cons, ih (i + 1) j (by omega) (by omega)]
    show _ = some (l.getD i I.dflt == x || isIn x _)
    cases (l.getD i I.dflt == x) <;> rfl
theorem has_s (k : Nat) (l : List Int) (x : Int) (n : Nat) (hn : n ≤ l.length) (hb : n ≤ 100000) (hk : n < k) : f_u77 k l (n : Int) x = some (isIn x (l.take n)) := by
  unfold f_u77
  exact has_2 k l x n hn hb n 0 k (by omega) hk
theorem has_v (k : Nat) (l : List Int) (x : Int) (n : Nat) (hn : n ≤ l.length) (hb : n ≤ 100000) (hk : n < k) : v_u77 k l (n : Int) x = isIn x (l.take n) := by
  unfold v_u77; rw [has_s k l x n hn hb hk]; rfl
theorem used_if (n u : Int) : (if n < (if 0 > u then 0 else u) then n else (if 0 > u then 0 else u)) = min (max u 0) n := by
  by_cases h : 0 > u
  · rw [if_pos h]; split <;> omega
  · rw [if_neg h]; split <;> omega
theorem clamp_comm (x m : Int) (h : 0 ≤ m) : min (max x 0) m = max 0 (min x m) := by omega
theorem left_used {n u : Int} (h : 0 ≤ n) : n - min (max u 0) n = leftS n u := by unfold leftS; omega
theorem Rolls_19 (k : Nat) (hk : 2100 ≤ k) (b : T17.T) (out : List Fnd) (hf : out.length ≤ 100000) (sum : Int) (i : Nat) (hi : i ≤ 40) (n u used : Int) (hl : b.2.2.2.2.2.2.2.2.2.2.2.1.length ≤ 40) (hS : b.2.2.2.2.2.2.2.2.2.2.2.2.2.1.length ≤ 40) (hs : Smalls (b.2.2.2.2.2.2.2.2.2.2.2.1)) (r : Ro) (hr : Small r.2.2) (hn : n = lenS r.2.2.2.2.2) (hus : used = min (max u 0) n) (h0 : 0 ≤ sum) (h1 : sum ≤ 100000000000000000) :
    ∀ (d c j : Nat) (y : Bool), c + d = b.2.2.2.2.2.2.2.2.2.2.2.1.length → (y = true → used = u) →
      f_u74_19 k (d + 1 + j) sum (i : Int) n used y (c : Int) b out r = f_u74_12 k j (sum + (bif isIn r.1 (b.2.2.2.2.2.2.2.2.2.2.2.2.2.1) then 0 else r.2.2.2.1 * leftS n u)) ((i + 1 : Nat) : Int) b (out ++ (bif (y && (b.2.2.2.2.2.2.2.2.2.2.2.1.drop c).all (kidOk r u)) then [] else [(3, r.1, 1)])) := by
  have hl2 := len_in hr.chk
  have hus2 : n - used = leftS n u := by rw [hus]; exact left_used (by omega)
  have hle := left_in (n := n) (u := u) (by omega) (by omega)
  have w0 := hr.w0
  have wl := hr.l0
  have wr := hr.r0
  have har := area_in w0 (by omega) hle.1 hle.2
  have e1 : IntKind.i64.wrap (n - used) = leftS n u := by rw [hus2]; exact wrap_id (by omega) (by omega)
  have e2 : IntKind.i64.wrap (r.2.2.2.1 * leftS n u) = r.2.2.2.1 * leftS n u := wrap_id (by omega) (by omega)
  have e3 : IntKind.i64.wrap (sum + r.2.2.2.1 * leftS n u) = sum + r.2.2.2.1 * leftS n u := wrap_id (by omega) (by omega)
  have hh := has_s k (b.2.2.2.2.2.2.2.2.2.2.2.2.2.1) r.1 (b.2.2.2.2.2.2.2.2.2.2.2.2.2.1.length) (Nat.le_refl _) (by omega) (by omega)
  have hv := has_v k (b.2.2.2.2.2.2.2.2.2.2.2.2.2.1) r.1 (b.2.2.2.2.2.2.2.2.2.2.2.2.2.1.length) (Nat.le_refl _) (by omega) (by omega)
  rw [List.take_of_length_le (Nat.le_refl _)] at hh hv
  intro d
  induction d with
  | zero =>
    intro c j y hc hy
    rw [show 0 + 1 + j = j + 1 by omega, f_u74_19, decide_eq_false (by omega : ¬ (c : Int) < (b.2.2.2.2.2.2.2.2.2.2.2.1.length : Int)), cond_false, List.drop_of_length_le (by omega), List.all_nil, Bool.and_true, wrapS i (by omega), hh, hv, e1, e2, e3, Option.isSome_some, if_pos rfl]
    cases y
    · rw [Bool.not_false, cond_true, cond_false, if_pos (by simp only [List.length_singleton]; omega)]
      cases isIn r.1 (b.2.2.2.2.2.2.2.2.2.2.2.2.2.1)
      · rfl
      · rw [Bool.not_true, cond_false, cond_true, Int.add_zero]
    · rw [Bool.not_true, cond_false, cond_true, List.append_nil, if_pos rfl]
      cases isIn r.1 (b.2.2.2.2.2.2.2.2.2.2.2.2.2.1)
      · rfl
      · rw [Bool.not_true, cond_false, cond_true, Int.add_zero]
  | succ d ih =>
    intro c j y hc hy
    have hm := hs _ (gdm (b.2.2.2.2.2.2.2.2.2.2.2.1) c T5.dflt (by omega))
    have h3 : (0 : Int) ≤ (c : Int) := by omega
    have h4 : (c : Int) < (b.2.2.2.2.2.2.2.2.2.2.2.1.length : Int) := by omega
    have hrw : b.2.2.2.2.2.2.2.2.2.2.2.1.drop c = b.2.2.2.2.2.2.2.2.2.2.2.1.getD c T5.dflt :: b.2.2.2.2.2.2.2.2.2.2.2.1.drop (c + 1) := drop_cons' (b.2.2.2.2.2.2.2.2.2.2.2.1) c T5.dflt (by omega)
    have hlv := lowestR_v k (by omega) _ hm.chk
    have hls := lowestR_s k (by omega) _ hm.chk
    rw [show d + 1 + 1 + j = (d + 1 + j) + 1 by omega, f_u74_19, decide_eq_true h4, cond_true, Int.toNat_natCast, wrapS c (by omega), hrw, List.all_cons, hls, hlv, e1]
    cases hq : ((b.2.2.2.2.2.2.2.2.2.2.2.1.getD c T5.dflt).2.1 == r.1)
    · have hk1 : kidOk r u (b.2.2.2.2.2.2.2.2.2.2.2.1.getD c T5.dflt) = true := by
        unfold kidOk
        rw [bne, hq]; rfl
      rw [cond_false, if_pos ⟨h3, h4, rfl⟩, hk1, Bool.true_and, ih (c + 1) j y (by omega) hy]
    · rw [cond_true, if_pos ⟨h3, h4, rfl, h3, h4, rfl⟩, Bool.true_and]
      cases y with
      | false =>
        rw [Bool.false_and, ih (c + 1) j false (by omega) (fun h => by cases h), Bool.false_and]
        cases decide (lowS (b.2.2.2.2.2.2.2.2.2.2.2.1.getD c T5.dflt).2.2.2.2.2 < leftS n u) <;> rfl
      | true =>
        have hu := hy rfl
        have hk1 : kidOk r u (b.2.2.2.2.2.2.2.2.2.2.2.1.getD c T5.dflt) = !decide (lowS (b.2.2.2.2.2.2.2.2.2.2.2.1.getD c T5.dflt).2.2.2.2.2 < leftS n u) := by
          unfold kidOk
          rw [bne, hq, Bool.not_true, Bool.false_or, ← hn, ← hus2, hu]
          by_cases h : lowS (b.2.2.2.2.2.2.2.2.2.2.2.1.getD c T5.dflt).2.2.2.2.2 < n - u
          · rw [decide_eq_true h, decide_eq_false (by omega)]; rfl
          · rw [decide_eq_false h, decide_eq_true (by omega)]; rfl
        rw [hk1, Bool.true_and]
        cases decide (lowS (b.2.2.2.2.2.2.2.2.2.2.2.1.getD c T5.dflt).2.2.2.2.2 < leftS n u)
        · rw [cond_false, ih (c + 1) j true (by omega) hy, Bool.true_and, Bool.not_false, Bool.true_and]
        · rw [cond_true, ih (c + 1) j false (by omega) (fun h => by cases h), Bool.false_and, Bool.not_true, Bool.false_and]
theorem used_eq {n u : Int} (h : 0 ≤ n) : (min (max u 0) n == u) = (decide (u ≥ 0) && decide (u ≤ n)) := by
  by_cases h1 : u ≥ 0
  · by_cases h2 : u ≤ n
    · rw [decide_eq_true h1, decide_eq_true h2, show min (max u 0) n = u by omega]; exact beq_self_eq_true _
    · rw [decide_eq_true h1, decide_eq_false h2]; exact beq_eq_false_iff_ne.2 (by omega)
  · rw [decide_eq_false h1, Bool.false_and]; exact beq_eq_false_iff_ne.2 (by omega)
theorem Long_v (k : Nat) (hk : 2100 ≤ k) (m : List Rn) (h : Chk m) : v_u69 k m = lenS m := by
  unfold v_u69; rw [ref42_Long_s k hk m h]; rfl
theorem Rolls_12 (k : Nat) (hk : 2100 ≤ k) (b : T17.T) (hl : b.2.2.2.2.2.2.2.2.2.2.2.1.length ≤ 40) (hS : b.2.2.2.2.2.2.2.2.2.2.2.2.2.1.length ≤ 40) (hs : Smalls (b.2.2.2.2.2.2.2.2.2.2.2.1)) (hu : b.2.2.2.2.2.2.2.2.2.2.2.2.1.length = b.2.2.2.2.2.2.2.2.2.2.2.1.length) :
    ∀ (d i j : Nat) (sum : Int) (out : List Fnd), i + d = b.2.2.2.2.2.2.2.2.2.2.2.1.length → out.length + d ≤ 10000 → 0 ≤ sum → sum + (d : Int) * 206158430208000 ≤ 50000000000000000 →
      f_u74_12 k (d * (b.2.2.2.2.2.2.2.2.2.2.2.1.length + 2) + 1 + j) sum (i : Int) b out = f_u74_28 k j (sum + covL (b.2.2.2.2.2.2.2.2.2.2.2.2.2.1) (b.2.2.2.2.2.2.2.2.2.2.2.1.drop i) (b.2.2.2.2.2.2.2.2.2.2.2.2.1.drop i)) 0 b (out ++ partA (b.2.2.2.2.2.2.2.2.2.2.2.1) (b.2.2.2.2.2.2.2.2.2.2.2.1.drop i) (b.2.2.2.2.2.2.2.2.2.2.2.2.1.drop i)) := by
  intro d
  induction d with
  | zero =>
    intro i j sum out hi hf h0 h1
    rw [show 0 * (b.2.2.2.2.2.2.2.2.2.2.2.1.length + 2) + 1 + j = j + 1 by omega, f_u74_12, decide_eq_false (by omega : ¬ (i : Int) < (b.2.2.2.2.2.2.2.2.2.2.2.1.length : Int)), cond_false, List.drop_of_length_le (by omega : b.2.2.2.2.2.2.2.2.2.2.2.1.length ≤ i), partA, covL, List.append_nil, Int.add_zero]
    · intro r rs u us h; cases h
    · intro r rs u us h; cases h
  | succ d ih =>
    intro i j sum out hi hf h0 h1
    have hm := hs _ (gdm (b.2.2.2.2.2.2.2.2.2.2.2.1) i T5.dflt (by omega))
    have hln := len_in hm.chk
    have hrw : b.2.2.2.2.2.2.2.2.2.2.2.1.drop i = b.2.2.2.2.2.2.2.2.2.2.2.1.getD i T5.dflt :: b.2.2.2.2.2.2.2.2.2.2.2.1.drop (i + 1) := drop_cons' (b.2.2.2.2.2.2.2.2.2.2.2.1) i T5.dflt (by omega)
    have huw : b.2.2.2.2.2.2.2.2.2.2.2.2.1.drop i = b.2.2.2.2.2.2.2.2.2.2.2.2.1.getD i I.dflt :: b.2.2.2.2.2.2.2.2.2.2.2.2.1.drop (i + 1) := drop_cons' (b.2.2.2.2.2.2.2.2.2.2.2.2.1) i I.dflt (by omega)
    have hfu : (d + 1) * (b.2.2.2.2.2.2.2.2.2.2.2.1.length + 2) + 1 + j = (b.2.2.2.2.2.2.2.2.2.2.2.1.length + 1 + (d * (b.2.2.2.2.2.2.2.2.2.2.2.1.length + 2) + 1 + j)) + 1 := by rw [Nat.succ_mul]; omega
    have h3 : (0 : Int) ≤ (i : Int) := by omega
    have h4 : (i : Int) < (b.2.2.2.2.2.2.2.2.2.2.2.2.1.length : Int) := by omega
    have h5 : (i : Int) < (b.2.2.2.2.2.2.2.2.2.2.2.1.length : Int) := by omega
    rw [hfu, f_u74_12, decide_eq_true h5, cond_true, if_pos ⟨h3, h5⟩, Int.toNat_natCast, ref42_Long_s k hk _ hm.chk, Long_v k hk _ hm.chk, Option.isSome_some, if_pos rfl, if_pos ⟨h3, h4⟩, if_pos ⟨h3, h4⟩, used_if]
    have hle := left_in (u := b.2.2.2.2.2.2.2.2.2.2.2.2.1.getD i I.dflt) hln.1 hln.2
    have w0 := hm.w0
    have wl := hm.l0
    have wr := hm.r0
    have har := area_in w0 (by omega) hle.1 hle.2
    have hun := used_eq (n := lenS (b.2.2.2.2.2.2.2.2.2.2.2.1.getD i T5.dflt).2.2.2.2.2) (u := b.2.2.2.2.2.2.2.2.2.2.2.2.1.getD i I.dflt) hln.1
    have h19 := Rolls_19 k hk b out (by omega) sum i (by omega) (lenS (b.2.2.2.2.2.2.2.2.2.2.2.1.getD i T5.dflt).2.2.2.2.2) (b.2.2.2.2.2.2.2.2.2.2.2.2.1.getD i I.dflt) _ hl hS hs (b.2.2.2.2.2.2.2.2.2.2.2.1.getD i T5.dflt) hm rfl rfl h0 (by omega) (b.2.2.2.2.2.2.2.2.2.2.2.1.length) 0 (d * (b.2.2.2.2.2.2.2.2.2.2.2.1.length + 2) + 1 + j) (min (max (b.2.2.2.2.2.2.2.2.2.2.2.2.1.getD i I.dflt) 0) (lenS (b.2.2.2.2.2.2.2.2.2.2.2.1.getD i T5.dflt).2.2.2.2.2) == b.2.2.2.2.2.2.2.2.2.2.2.2.1.getD i I.dflt) (by omega) (fun h => beq_iff_eq.1 h)
    rw [List.drop_zero] at h19
    rw [show ((0 : Nat) : Int) = 0 from rfl] at h19
    refine Eq.trans h19 ?_
    rw [hun]
    have ho := one1_len (b.2.2.2.2.2.2.2.2.2.2.2.1) (b.2.2.2.2.2.2.2.2.2.2.2.1.getD i T5.dflt) (b.2.2.2.2.2.2.2.2.2.2.2.2.1.getD i I.dflt)
    show f_u74_12 k (d * (b.2.2.2.2.2.2.2.2.2.2.2.1.length + 2) + 1 + j) _ _ b (out ++ one1 (b.2.2.2.2.2.2.2.2.2.2.2.1) (b.2.2.2.2.2.2.2.2.2.2.2.1.getD i T5.dflt) (b.2.2.2.2.2.2.2.2.2.2.2.2.1.getD i I.dflt)) = _
    rw [ih (i + 1) j _ _ (by omega) (by rw [List.length_append]; omega) (by cases isIn (b.2.2.2.2.2.2.2.2.2.2.2.1.getD i T5.dflt).1 (b.2.2.2.2.2.2.2.2.2.2.2.2.2.1) <;> simp only [cond_true, cond_false] <;> omega) (by cases isIn (b.2.2.2.2.2.2.2.2.2.2.2.1.getD i T5.dflt).1 (b.2.2.2.2.2.2.2.2.2.2.2.2.2.1) <;> simp only [cond_true, cond_false] <;> omega), hrw, huw, partA, covL, List.append_assoc, Int.add_assoc]
theorem Rolls_35 (k : Nat) (b : T17.T) (hb : b.2.2.2.2.2.2.2.2.2.2.2.2.2.2.2.2.2.2.2.2.1.length ≤ 40) (out : List Fnd) (hf : out.length ≤ 100000) (W M B : Int) (eW : b.2.1 = W) (eM : b.2.2.1 = M) (eB : b.2.2.2.1 = B) (hW : 1 ≤ W ∧ W ≤ 12000) (hM : 0 ≤ M ∧ M ≤ 17179869184) (hB : 0 ≤ B ∧ B ≤ M) :
    ∀ (d i j : Nat) (sum : Int), i + d = b.2.2.2.2.2.2.2.2.2.2.2.2.2.2.2.2.2.2.2.2.1.length → d < j → 0 ≤ sum → sum + (d : Int) * 206158430208000 ≤ 100000000000000000 →
      f_u74_35 k j sum (i : Int) b out = some (out ++ finI B M (sum + brkL (b.2.2.2.2.2.2.2.2.2.2.2.2.2.2.2.2.2.2.2.2.1.drop i)) W, 0) := by
  intro d
  induction d with
  | zero =>
    intro i j sum hi hj h0 h1
    obtain ⟨j, rfl⟩ : ∃ q, j = q + 1 := ⟨j - 1, by omega⟩
    have a1 := wmul_in (w := W) (n := M - B) (by omega) hW.2 (by omega) (by omega)
    have a2 := wmul_in (w := W) (n := M) (by omega) hW.2 hM.1 hM.2
    have e1 : IntKind.i64.wrap (M - B) = M - B := wrap_id (by omega) (by omega)
    have e2 : IntKind.i64.wrap (W * (M - B)) = W * (M - B) := wrap_id (by omega) (by omega)
    have e3 : IntKind.i64.wrap (sum + W * (M - B)) = sum + W * (M - B) := wrap_id (by omega) (by omega)
    have e4 : IntKind.i64.wrap (W * M) = W * M := wrap_id (by omega) (by omega)
    have e5 : IntKind.i64.wrap (sum + W * (M - B) - W * M) = sum + W * (M - B) - W * M := wrap_id (by omega) (by omega)
    have e6 : sum + W * (M - B) - W * M = sum - W * B := by rw [Int.mul_sub]; omega
    rw [f_u74_35, decide_eq_false (by omega : ¬ (i : Int) < (b.2.2.2.2.2.2.2.2.2.2.2.2.2.2.2.2.2.2.2.2.1.length : Int)), cond_false, List.drop_of_length_le (by omega : b.2.2.2.2.2.2.2.2.2.2.2.2.2.2.2.2.2.2.2.2.1.length ≤ i), brkL, Int.add_zero, eW, eM, eB, e1, e2, e3, e4, e5, e6]
    have hb : ¬ (B < 0 ∨ B > M) := by omega
    by_cases hd : sum - W * B = 0
    · rw [finI_0 hb hd, show (sum - W * B != (0 : Int)) = false by rw [hd]; rfl, cond_false, List.append_nil]
    · rw [finI_d hb hd, bne_iff_ne.2 hd, cond_true, if_pos (by simp only [List.length_singleton]; omega)]
  | succ d ih =>
    intro i j sum hi hj h0 h1
    obtain ⟨j, rfl⟩ : ∃ q, j = q + 1 := ⟨j - 1, by omega⟩
    have hrw : b.2.2.2.2.2.2.2.2.2.2.2.2.2.2.2.2.2.2.2.2.1.drop i = b.2.2.2.2.2.2.2.2.2.2.2.2.2.2.2.2.2.2.2.2.1.getD i T14.dflt :: b.2.2.2.2.2.2.2.2.2.2.2.2.2.2.2.2.2.2.2.2.1.drop (i + 1) := drop_cons' (b.2.2.2.2.2.2.2.2.2.2.2.2.2.2.2.2.2.2.2.2.1) i T14.dflt (by omega)
    rw [f_u74_35, decide_eq_true (by omega : (i : Int) < (b.2.2.2.2.2.2.2.2.2.2.2.2.2.2.2.2.2.2.2.2.1.length : Int)), cond_true, if_pos ⟨by omega, by omega⟩, Int.toNat_natCast, wrapS i (by omega), used_if, hrw, brkL]
    have hx : min (max (b.2.2.2.2.2.2.2.2.2.2.2.2.2.2.2.2.2.2.2.2.1.getD i T14.dflt).2.2.2 0) 206158430208000 = max 0 (min (b.2.2.2.2.2.2.2.2.2.2.2.2.2.2.2.2.2.2.2.2.1.getD i T14.dflt).2.2.2 206158430208000) := clamp_comm _ _ (by omega)
    rw [hx, wrap_id (by omega) (by omega), ih (i + 1) j _ (by omega) (by omega) (by omega) (by omega), Int.add_assoc]
theorem look_idIn (x : Int) : ∀ l : List Ro, (look l x).isSome = idIn x l
  | [] => rfl
  | r :: t => by
    have := look_idIn x t
    unfold look at this ⊢
    unfold idIn at this ⊢
    rw [List.find?_cons, List.any_cons]
    cases r.1 == x
    · exact this
    · rfl
theorem Ix_neg (k : Nat) (l : List Ro) (x : Int) (hp : l.length ≤ 100000) (hk : l.length < k) : (f_u68 k l (l.length : Int) x).isSome = true ∧ decide (v_u68 k l (l.length : Int) x < (0 : Int)) = !idIn x l := by
  obtain ⟨o, h1, h2, h3⟩ := ref42_Ix k l x hp hk
  refine ⟨by rw [h1]; rfl, ?_⟩
  rw [h2, ← look_idIn]
  cases e : look l x with
  | none => rw [h3.none e]; rfl
  | some r =>
    obtain ⟨q, h4, h5, _⟩ := h3.some e
    rw [h4]
    exact decide_eq_false (by show ¬ (q : Int) < 0; omega)
theorem Rolls_28 (k : Nat) (hk : 2100 ≤ k) (b : T17.T) (g : GB b) (hw : wOk (b.2.1)) (hm : mOk (b.2.2.1)) (sum : Int) (h0 : 0 ≤ sum) (h1 : sum ≤ 50000000000000000) :
    ∀ (d i j : Nat) (out : List Fnd), i + d = b.2.2.2.2.2.2.2.2.2.2.2.2.2.1.length → d + 50 < j → out.length + d ≤ 20000 →
      f_u74_28 k j sum (i : Int) b out = some (out ++ (partB (b.2.2.2.2.2.2.2.2.2.2.2.1) (b.2.2.2.2.2.2.2.2.2.2.2.2.2.1.take i) (b.2.2.2.2.2.2.2.2.2.2.2.2.2.1.drop i) ++ finI (b.2.2.2.1) (b.2.2.1) (sum + brkL (b.2.2.2.2.2.2.2.2.2.2.2.2.2.2.2.2.2.2.2.2.1)) (b.2.1)), 0) := by
  have hsl := g.bScrapped
  have hbl := g.bBroke
  have hrl := g.bRolls
  intro d
  induction d with
  | zero =>
    intro i j out hi hj hf
    obtain ⟨j, rfl⟩ : ∃ q, j = q + 1 := ⟨j - 1, by omega⟩
    rw [f_u74_28, decide_eq_false (by omega : ¬ (i : Int) < (b.2.2.2.2.2.2.2.2.2.2.2.2.2.1.length : Int)), cond_false, List.drop_of_length_le (by omega), partB, List.nil_append]
    unfold wOk at hw
    unfold mOk at hm
    have h35 := fun hB => Rolls_35 k b hbl out (by omega) (b.2.1) (b.2.2.1) (b.2.2.2.1) rfl rfl rfl hw hm hB (b.2.2.2.2.2.2.2.2.2.2.2.2.2.2.2.2.2.2.2.2.1.length) 0 j sum (by omega) (by omega) h0 (by omega)
    rw [List.drop_zero] at h35
    rw [show ((0 : Nat) : Int) = 0 from rfl] at h35
    generalize hBv : (b.2.2.2.1 : Int) = B at *
    generalize hDv : (b.2.2.1 : Int) = D at *
    by_cases hb : B < 0 ∨ B > D
    · have : (decide (B < (0 : Int)) || decide (B > D)) = true := by
        rcases hb with h | h
        · rw [decide_eq_true h, Bool.true_or]
        · rw [decide_eq_true h, Bool.or_true]
      rw [this, cond_true, if_pos (by simp only [List.length_singleton]; omega), finI_b hb]
    · have : (decide (B < (0 : Int)) || decide (B > D)) = false := by
        rw [decide_eq_false (fun h => hb (.inl h)), decide_eq_false (fun h => hb (.inr h))]; rfl
      rw [this, cond_false]
      exact h35 ⟨Int.not_lt.1 (fun h => hb (.inl h)), Int.not_lt.1 (fun h => hb (.inr h))⟩
  | succ d ih =>
    intro i j out hi hj hf
    obtain ⟨j, rfl⟩ : ∃ q, j = q + 1 := ⟨j - 1, by omega⟩
    have h3 : (0 : Int) ≤ (i : Int) := by omega
    have h4 : (i : Int) < (b.2.2.2.2.2.2.2.2.2.2.2.2.2.1.length : Int) := by omega
    have hrw : b.2.2.2.2.2.2.2.2.2.2.2.2.2.1.drop i = b.2.2.2.2.2.2.2.2.2.2.2.2.2.1.getD i I.dflt :: b.2.2.2.2.2.2.2.2.2.2.2.2.2.1.drop (i + 1) := drop_cons' (b.2.2.2.2.2.2.2.2.2.2.2.2.2.1) i I.dflt (by omega)
    have htk : b.2.2.2.2.2.2.2.2.2.2.2.2.2.1.take (i + 1) = b.2.2.2.2.2.2.2.2.2.2.2.2.2.1.take i ++ [b.2.2.2.2.2.2.2.2.2.2.2.2.2.1.getD i I.dflt] := take_snoc (b.2.2.2.2.2.2.2.2.2.2.2.2.2.1) i I.dflt (by omega)
    obtain ⟨i1, i2⟩ := Ix_neg k (b.2.2.2.2.2.2.2.2.2.2.2.1) (b.2.2.2.2.2.2.2.2.2.2.2.2.2.1.getD i I.dflt) (by omega) (by omega)
    have hh := has_s k (b.2.2.2.2.2.2.2.2.2.2.2.2.2.1) (b.2.2.2.2.2.2.2.2.2.2.2.2.2.1.getD i I.dflt) i (by omega) (by omega) (by omega)
    have hv := has_v k (b.2.2.2.2.2.2.2.2.2.2.2.2.2.1) (b.2.2.2.2.2.2.2.2.2.2.2.2.2.1.getD i I.dflt) i (by omega) (by omega) (by omega)
    rw [f_u74_28, decide_eq_true h4, cond_true, Int.toNat_natCast, wrapS i (by omega), hrw, partB, ← htk, i2, i1, hh, hv]
    cases hq : idIn (b.2.2.2.2.2.2.2.2.2.2.2.2.2.1.getD i I.dflt) (b.2.2.2.2.2.2.2.2.2.2.2.1)
    · rw [Bool.not_false, cond_true, if_pos ⟨h3, h4, rfl, rfl⟩, if_pos ⟨h3, h4, by simp only [List.length_singleton]; omega⟩, Bool.true_or, cond_true, ih (i + 1) j _ (by omega) (by omega) (by rw [List.length_append, List.length_singleton]; omega), List.append_assoc, List.append_assoc]
    · rw [Bool.not_true, cond_false, if_pos ⟨h3, h4, rfl, rfl, h3, h4, rfl⟩, Bool.false_or]
      cases isIn (b.2.2.2.2.2.2.2.2.2.2.2.2.2.1.getD i I.dflt) (b.2.2.2.2.2.2.2.2.2.2.2.2.2.1.take i)
      · rw [cond_false, cond_false, List.nil_append]
        exact ih (i + 1) j out (by omega) (by omega) (by omega)
      · rw [cond_true, cond_true, if_pos ⟨h3, h4, by simp only [List.length_singleton]; omega⟩, ih (i + 1) j _ (by omega) (by omega) (by rw [List.length_append, List.length_singleton]; omega), List.append_assoc, List.append_assoc]
theorem RollsR_s (k : Nat) (hk : 300000 ≤ k) (b : T17.T) (g : GB b) : f_u74 k b = some (rollsS b, 0) := by
  have hr := g.bRolls
  have hsl := g.bScrapped
  have hc := ref42_Check_s k hk (b.2.2.2.2.2.2.2.2.2.2.2.1) (b.2.1) (b.2.2.1)
  have hcv : v_u67 k (b.2.2.2.2.2.2.2.2.2.2.2.1) (b.2.1) (b.2.2.1) = checkS (b.2.2.2.2.2.2.2.2.2.2.2.1) (b.2.1) (b.2.2.1) := by unfold v_u67; rw [hc]; rfl
  unfold f_u74
  rw [Full_s k (by omega) b g, Full_v k (by omega) b g, Option.isSome_some, if_pos rfl, bne_self_eq_false, cond_false, hc, hcv, Option.isSome_some, if_pos rfl]
  by_cases h1 : checkS (b.2.2.2.2.2.2.2.2.2.2.2.1) (b.2.1) (b.2.2.1) = 0
  · rw [show (checkS (b.2.2.2.2.2.2.2.2.2.2.2.1) (b.2.1) (b.2.2.1) != (0 : Int)) = false by rw [h1]; rfl, cond_false]
    by_cases h2 : b.2.2.2.2.2.2.2.2.2.2.2.2.1.length = b.2.2.2.2.2.2.2.2.2.2.2.1.length
    · obtain ⟨MM, _, hs, _⟩ := (fam_open k hk (b.2.2.2.2.2.2.2.2.2.2.2.1) (b.2.1, b.2.2.1)).2 h1
      have hreg := checkS_zero.1 h1
      rw [rollsS_g h1 h2, show ((b.2.2.2.2.2.2.2.2.2.2.2.2.1.length : Int) != (b.2.2.2.2.2.2.2.2.2.2.2.1.length : Int)) = false by rw [h2]; exact bne_self_eq_false _, cond_false]
      have e6 := Rolls_12 k (by omega) b hr hsl hs h2 (b.2.2.2.2.2.2.2.2.2.2.2.1.length) 0 (k - (b.2.2.2.2.2.2.2.2.2.2.2.1.length * (b.2.2.2.2.2.2.2.2.2.2.2.1.length + 2) + 1)) 0 [] (by omega) (by simp; omega) (by omega) (by omega)
      have hmul : b.2.2.2.2.2.2.2.2.2.2.2.1.length * (b.2.2.2.2.2.2.2.2.2.2.2.1.length + 2) ≤ 40 * 42 := Nat.mul_le_mul hr (by omega)
      rw [show b.2.2.2.2.2.2.2.2.2.2.2.1.length * (b.2.2.2.2.2.2.2.2.2.2.2.1.length + 2) + 1 + (k - (b.2.2.2.2.2.2.2.2.2.2.2.1.length * (b.2.2.2.2.2.2.2.2.2.2.2.1.length + 2) + 1)) = k by omega, List.drop_zero, List.drop_zero, List.nil_append, Int.zero_add] at e6
      have hpa := partA_len (b.2.2.2.2.2.2.2.2.2.2.2.1) (b.2.2.2.2.2.2.2.2.2.2.2.1) (b.2.2.2.2.2.2.2.2.2.2.2.2.1)
      have hcl := covL_in (b.2.2.2.2.2.2.2.2.2.2.2.2.2.1) (b.2.2.2.2.2.2.2.2.2.2.2.1) (b.2.2.2.2.2.2.2.2.2.2.2.2.1) hs
      have e28 := Rolls_28 k (by omega) b g hreg.w hreg.len (covL (b.2.2.2.2.2.2.2.2.2.2.2.2.2.1) (b.2.2.2.2.2.2.2.2.2.2.2.1) (b.2.2.2.2.2.2.2.2.2.2.2.2.1)) hcl.1 (by omega) (b.2.2.2.2.2.2.2.2.2.2.2.2.2.1.length) 0 (k - (b.2.2.2.2.2.2.2.2.2.2.2.1.length * (b.2.2.2.2.2.2.2.2.2.2.2.1.length + 2) + 1)) (partA (b.2.2.2.2.2.2.2.2.2.2.2.1) (b.2.2.2.2.2.2.2.2.2.2.2.1) (b.2.2.2.2.2.2.2.2.2.2.2.2.1)) (by omega) (by omega) (by omega)
      rw [show ((0 : Nat) : Int) = 0 from rfl] at e6 e28
      rw [List.take_zero, List.drop_zero] at e28
      rw [e6, e28]
      rfl
    · rw [rollsS_u h1 h2, bne_iff_ne.2 (show (b.2.2.2.2.2.2.2.2.2.2.2.2.1.length : Int) ≠ (b.2.2.2.2.2.2.2.2.2.2.2.1.length : Int) from fun h => h2 (by omega)), cond_true]
  · rw [rollsS_c h1, bne_iff_ne.2 h1, cond_true]
theorem RollsR_v (k : Nat) (hk : 300000 ≤ k) (b : T17.T) (g : GB b) : v_u74 k b = (rollsS b, 0) := by
  unfold v_u74; rw [RollsR_s k hk b g]; rfl
theorem q_AuditRolls (k : Nat) (hk : 300000 ≤ k) (aw : f_u43 k = some true) (b : T17.T) (hw : Wf T17 b) : f_u41 k b = some true := by
  obtain ⟨r, h1, h2⟩ := great_w k (by omega) b hw
  have av : v_u43 k = true := by unfold v_u43; rw [aw]; rfl
  have gv : v_u45 k b = r := by unfold v_u45; rw [h1]; rfl
  unfold f_u41
  rw [h1, gv, aw, av, Option.isSome_some, if_pos rfl]
  cases r with
  | true => rfl
  | false =>
    have g := h2 rfl
    have hl := rollsS_len b g
    rw [cond_false, Rolls_s k hk b g, Rolls_v k hk b g, RollsR_s k hk b g, RollsR_v k hk b g]
    show (if true = true then (if true = true then (bif ((0 : Int) == 0) then (bif (true && v_u44 k (rollsS b) (rollsS b)) then (if (((0 : Int) == 0) = true) ∧ ((f_u44 k (rollsS b) (rollsS b)).isSome = true) ∧ ((true && v_u44 k (rollsS b) (rollsS b)) = true) ∧ _ then _ else _) else _) else _) else _) else _) = _
    rw [findings_s k _ (by omega) (by omega), findings_v k _ (by omega) (by omega)]
    rfl
end Go.AM
