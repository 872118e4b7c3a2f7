/- Contracts of the functions that the law reaches, and the plain law. -/
import Derived.Test.YtbenjjjcafbmmaaGreatFunc
set_option linter.unusedVariables false
set_option linter.unusedSimpArgs false
set_option linter.unusedSectionVars false
namespace Go.AM
open Go Go.Proofs Go.IntKind

def errS (l : List Ro) (W L id : Int) : Int := if checkS l W L ≠ 0 then checkS l W L else if id ≠ 0 ∧ look l id = none then 7 else 0
structure Kno (l : List Ro) (W L id : Int) : Prop where
 reg : Reg l W L
 kn : id = 0 ∨ ∃ q, look l id = some q
theorem errS_zero {l : List Ro} {W L id : Int} : errS l W L id = 0 ↔ Kno l W L id := by
 unfold errS
 constructor
 ·intro h
  by_cases h1 : checkS l W L = 0
  ·rw [if_neg (fun h : checkS l W L ≠ 0 => h h1)] at h
   refine ⟨checkS_zero.1 h1, ?_⟩
   by_cases h2 : id = 0
   ·exact .inl h2
   ·right
    cases e : look l id with
    | none => rw [if_pos ⟨h2, e⟩] at h; omega
    | some q => exact ⟨q, rfl⟩
  ·rw [if_pos h1] at h; exact absurd h h1
 ·rintro ⟨h1, h2⟩
  rw [if_neg (fun h : checkS l W L ≠ 0 => h (checkS_zero.2 h1)), if_neg (fun h : id ≠ 0 ∧ look l id = none => by
   rcases h2 with h2 | ⟨q, h2⟩
   ·exact h.1 h2
   ·rw [h2] at h; cases h.2)]

theorem fam_find (k : Nat) (hk : 300000 ≤ k) (l : List Ro) (web : Int × Int) (id : Int) : (errS l web.1 web.2 id ≠ 0 → f_u14 k l web id = some (.inl (errS l web.1 web.2 id))) ∧ (errS l web.1 web.2 id = 0 → ∃ M, RegOk M l ∧ Wl l ∧ f_u14 k l web id = some (.inr (0, web.1, web.2, l, M))) := by
 obtain ⟨h1, h2⟩ := fam_open k hk l web
 by_cases h : checkS l web.1 web.2 = 0
 ·obtain ⟨M, m1, m2, e⟩ := h2 h
  have hX : f_u14 k l web id = bif ((0 : Int) == 0 && id != 0) then (if (((0 : Int) == 0 && id != 0) = true) ∧ ((f_u24 k web.1 web.2 l M id).isSome = true) then (bif (true && !v_u24 k web.1 web.2 l M id) then some (.inl 7) else some (.inr (0, web.1, web.2, l, M))) else none) else (if (((0 : Int) == 0 && id != 0) = false) then some (.inr (0, web.1, web.2, l, M)) else none) := by
   unfold f_u14 vA_u15 vB_u15 v_u15
   rw [e]; rfl
  have hkn : v_u24 k web.1 web.2 l M id = (mget I id M).isSome := by unfold v_u24 f_u24; rfl
  rw [hX, hkn]
  unfold errS
  rw [if_neg (fun h' : checkS l web.1 web.2 ≠ 0 => h' h)]
  by_cases h0 : id = 0
  ·rw [show ((0 : Int) == 0 && id != 0) = false by simp [h0], cond_false, if_pos rfl, if_neg (fun h' : id ≠ 0 ∧ look l id = none => h'.1 h0)]
   exact ⟨fun h => absurd rfl h, fun _ => ⟨M, m1, m2, rfl⟩⟩
  ·rw [show ((0 : Int) == 0 && id != 0) = true by simp [h0], cond_true, if_pos (show true = true ∧ (f_u24 k web.1 web.2 l M id).isSome = true from ⟨rfl, rfl⟩)]
   cases e : look l id with
   | none =>
    rw [(m1 id).none e, if_pos (show id ≠ 0 ∧ (none : Option Ro) = none from ⟨h0, rfl⟩)]
    exact ⟨fun _ => rfl, fun h => absurd h (by decide)⟩
   | some q =>
    obtain ⟨i, e1, e2, e3⟩ := (m1 id).some e
    rw [e1, if_neg (fun h : id ≠ 0 ∧ some q = none => nomatch h.2)]
    exact ⟨fun h => absurd rfl h, fun _ => ⟨M, m1, m2, rfl⟩⟩
 ·have hX : f_u14 k l web id = bif (checkS l web.1 web.2 == 0 && id != 0) then none else if (checkS l web.1 web.2 == 0 && id != 0) = false then some (.inl (checkS l web.1 web.2)) else none := by
   unfold f_u14 vA_u15 vB_u15 v_u15
   rw [h1 h]; rfl
  rw [hX]
  unfold errS
  rw [if_pos h, show (checkS l web.1 web.2 == 0) = false from beq_false_of_ne h, Bool.false_and, cond_false, if_pos rfl]
  exact ⟨fun _ => rfl, fun h' => absurd h' h⟩

def sizeE (l : List Ro) (W L id : Int) : Int × Int × Int := if errS l W L id ≠ 0 then (0, 0, errS l W L id) else ((sizeS l W L id).1, (sizeS l W L id).2, 0)
theorem fam_size (k : Nat) (hk : 2100 ≤ k) (W L : Int) (l : List Ro) (M : List (Int × Int)) (id : Int) (hp : Wl l) (hM : RegOk M l) (h : id = 0 ∨ ∃ q, look l id = some q) : f_u27 k W L l M id = some (sizeS l W L id) ∧ v_u27 k W L l M id = sizeS l W L id := by
 have a := fam_size_s k hk W L l [] M id hp hM h
 have b := fam_size_v k hk W L l [] M id hp hM h
 rw [List.append_nil] at a b
 exact ⟨a, b⟩
theorem ref42_Ix (k : Nat) (l : List Ro) (id : Int) (hp : l.length ≤ 100000) (hk : l.length < k) : ∃ o : Option Int, f_u82 k l (l.length : Int) id = some (o.getD (-1)) ∧ v_u82 k l (l.length : Int) id = o.getD (-1) ∧ At l id o := by
 have := ref42_Index_s k l [] id hp hk
 rw [List.append_nil] at this
 exact this
theorem ref42_Size_s (k : Nat) (hk : 300000 ≤ k) (l : List Ro) (web : Int × Int) (id : Int) : f_u87 k l web id = some (sizeE l web.1 web.2 id) := by
 unfold f_u87 sizeE errS
 rw [ref42_Check_s k hk, ref42_Check_v k hk, Option.isSome_some, if_pos rfl]
 by_cases h : checkS l web.1 web.2 = 0
 ·have reg := checkS_zero.1 h
  have hn := reg.num
  rw [show (checkS l web.1 web.2 != 0) = false by simp [h], cond_false, if_neg (fun h' : checkS l web.1 web.2 ≠ 0 => h' h)]
  by_cases h0 : id = 0
  ·rw [show (id == 0) = true by simp [h0], cond_true, if_neg (fun h' : id ≠ 0 ∧ look l id = none => h'.1 h0), if_neg (fun h => h rfl)]
   unfold sizeS
   rw [if_pos h0]
  ·obtain ⟨o, o1, o2, o3⟩ := ref42_Ix k l id (by omega) (by omega)
   rw [show (id == 0) = false by simp [h0], cond_false, o1, o2, Option.isSome_some, if_pos rfl]
   cases e : look l id with
   | none =>
    rw [o3.none e, if_pos (show id ≠ 0 ∧ (none : Option Ro) = none from ⟨h0, rfl⟩)]
    rfl
   | some q =>
    obtain ⟨x, e1, e2, e3⟩ := o3.some e
    have hq := (reg.ok.ro q (look_some e).1).cut.chk
    have hx : (x : Int) < (l.length : Int) := by omega
    have hx0 : (0 : Int) ≤ (x : Int) := by omega
    rw [e1, Option.getD_some, decide_eq_false (by omega : ¬ (x : Int) < 0), cond_false, Int.toNat_natCast, e3, ref42_Long_s k (by omega) _ hq, ref42_Long_v k (by omega) _ hq, if_pos ⟨hx0, hx, hx0, hx, rfl⟩, if_neg (show ¬ (id ≠ 0 ∧ some q = none) from fun h => nomatch h.2), if_neg (fun h => h rfl)]
    unfold sizeS
    rw [if_neg h0, e]
 ·rw [show (checkS l web.1 web.2 != 0) = true from bne_iff_ne.2 h, cond_true, if_pos h, if_pos h]
theorem ref42_Size_v (k : Nat) (hk : 300000 ≤ k) (l : List Ro) (web : Int × Int) (id : Int) : v_u87 k l web id = sizeE l web.1 web.2 id := by
 unfold v_u87; rw [ref42_Size_s k hk l web id]; rfl

theorem on_test (a n : Int) : (decide (a < 0) || decide (a ≥ n)) = decide (a < 0 ∨ a ≥ n) := by
 by_cases h1 : a < 0
 ·rw [decide_eq_true h1, decide_eq_true (Or.inl h1), Bool.true_or]
 ·rw [decide_eq_false h1, Bool.false_or]
  by_cases h2 : a ≥ n
  ·rw [decide_eq_true h2, decide_eq_true (Or.inr h2)]
  ·rw [decide_eq_false h2, decide_eq_false (fun h => by rcases h with h | h; exact h1 h; exact h2 h)]
theorem on_bif (l : List Ro) (W L : Int) (p : Pt) : (bif (decide (p.2.1 < 0) || decide (p.2.1 ≥ (sizeS l W L p.1).1)) then some 20 else bif (decide (p.2.2 < 0) || decide (p.2.2 ≥ (sizeS l W L p.1).2)) then some 21 else some 0) = some (onS l W L p) := by
 unfold onS
 rw [on_test, on_test]
 by_cases h1 : p.2.1 < 0 ∨ p.2.1 ≥ (sizeS l W L p.1).1
 ·rw [decide_eq_true h1, if_pos h1]; rfl
 ·rw [decide_eq_false h1, if_neg h1, cond_false]
  by_cases h2 : p.2.2 < 0 ∨ p.2.2 ≥ (sizeS l W L p.1).2
  ·rw [decide_eq_true h2, if_pos h2]; rfl
  ·rw [decide_eq_false h2, if_neg h2]; rfl
theorem fam_on_s (k : Nat) (hk : 2100 ≤ k) (W L : Int) (l : List Ro) (M : List (Int × Int)) (p : Pt) (hp : Wl l) (hM : RegOk M l) (h : p.1 = 0 ∨ ∃ q, look l p.1 = some q) : f_u26 k W L l M p = some (onS l W L p) := by
 obtain ⟨a, b⟩ := fam_size k hk W L l M p.1 hp hM h
 unfold f_u26
 rw [a, b, Option.isSome_some, if_pos rfl]
 exact on_bif l W L p
theorem fam_on_v (k : Nat) (hk : 2100 ≤ k) (W L : Int) (l : List Ro) (M : List (Int × Int)) (p : Pt) (hp : Wl l) (hM : RegOk M l) (h : p.1 = 0 ∨ ∃ q, look l p.1 = some q) : v_u26 k W L l M p = onS l W L p := by
 unfold v_u26; rw [fam_on_s k hk W L l M p hp hM h]; rfl
def onE (l : List Ro) (W L : Int) (p : Pt) : Int := if errS l W L p.1 ≠ 0 then errS l W L p.1 else onS l W L p
theorem slit_Place_s (k : Nat) (hk : 304 ≤ k) (c : Ch) (x y : Int) (h0 : 0 ≤ c.1) (h1 : 1 ≤ c.2.1) (h2 : c.1 + c.2.1 ≤ 12000) (h3 : Chk c.2.2.2) (x0 : 0 ≤ x) (x1 : x < c.2.1) (y0 : 0 ≤ y) (y1 : y < lenS c.2.2.2) :
  f_u102 k c x y = some ((if c.2.2.1 = true then c.1 + c.2.1 - 1 - x else c.1 + x), imgAt c.2.2.2 y, 0) := by
 have hl := h3.len
 have hlies : f_u104 k (c.1, c.2.1) 12000 = some true := by
  unfold f_u104
  show some (decide (c.1 ≥ 0) && decide (c.2.1 ≥ 1) && decide (c.1 ≤ 12000) && decide (c.2.1 ≤ i64.wrap (12000 - c.1))) = _
  rw [wrap_id (by omega) (by omega), decide_eq_true (by omega : c.1 ≥ 0), decide_eq_true (by omega : c.2.1 ≥ 1), decide_eq_true (by omega : c.1 ≤ 12000), decide_eq_true (by omega : c.2.1 ≤ 12000 - c.1)]; rfl
 have ht : f_u103 k c = some (.inr (c.1, c.2.1, !c.2.2.1, 0, c.2.2.2)) := by
  unfold f_u103 v_u104
  rw [hlies, iso_Check_s k (by omega), iso_Check_v k (by omega), chk_zero.2 h3]
  show (if (f_u96 k c.2.2.2).isSome = true then some (Sum.inr (c.1, c.2.1, !c.2.2.1, (0 : Int), v_u96 k c.2.2.2)) else none) = _
  have hc : f_u96 k c.2.2.2 = some c.2.2.2 := by unfold f_u96; rw [if_pos (by omega)]
  unfold v_u96
  rw [hc]; rfl
 have hat : atS c.2.2.2 y = (imgAt c.2.2.2 y, 0) := by unfold atS; rw [if_neg (fun h => h (chk_zero.2 h3)), if_neg (by omega)]
 unfold f_u102 vB_u103 v_u103
 rw [ht]
 show (bif (decide (x < (0 : Int)) || decide (x ≥ c.2.1)) then _ else if (f_u30 k c.2.2.2 y).isSome = true then (bif ((v_u30 k c.2.2.2 y).2 != 0) then _ else bif c.2.2.1 then some (i64.wrap (c.1 + i64.wrap (i64.wrap (c.2.1 - 1) - x)), (v_u30 k c.2.2.2 y).1, (0 : Int)) else some (i64.wrap (c.1 + x), (v_u30 k c.2.2.2 y).1, (0 : Int))) else none) = _
 rw [decide_eq_false (by omega : ¬ x < 0), decide_eq_false (by omega : ¬ x ≥ c.2.1), Bool.or_false, cond_false, iso_At_s k hk, iso_At_v k hk, hat]
 show (bif c.2.2.1 then some (i64.wrap (c.1 + i64.wrap (i64.wrap (c.2.1 - 1) - x)), imgAt c.2.2.2 y, (0 : Int)) else some (i64.wrap (c.1 + x), imgAt c.2.2.2 y, (0 : Int))) = _
 rw [wrap_id (i := c.2.1 - 1) (by omega) (by omega), wrap_id (i := c.2.1 - 1 - x) (by omega) (by omega), wrap_id (i := c.1 + (c.2.1 - 1 - x)) (by omega) (by omega), wrap_id (i := c.1 + x) (by omega) (by omega)]
 cases c.2.2.1
 ·rfl
 ·rw [cond_true, if_pos rfl, show c.1 + (c.2.1 - 1 - x) = c.1 + c.2.1 - 1 - x by omega]
theorem fam_parent_s (k : Nat) (hk : 304 ≤ k) (r : Ro) (p : Pt) (s : Small r.2.2) (x0 : 0 ≤ p.2.1) (x1 : p.2.1 < r.2.2.2.1) (y0 : 0 ≤ p.2.2) (y1 : p.2.2 < lenS r.2.2.2.2.2) : f_u17 k r p = some (placeS r p) := by
 obtain ⟨a, b, c, d⟩ := s
 have h := slit_Place_s k hk r.2.2 p.2.1 p.2.2 a b c d x0 x1 y0 y1
 unfold f_u17 v_u102
 rw [h]; rfl
theorem fam_parent_v (k : Nat) (hk : 304 ≤ k) (r : Ro) (p : Pt) (s : Small r.2.2) (x0 : 0 ≤ p.2.1) (x1 : p.2.1 < r.2.2.2.1) (y0 : 0 ≤ p.2.2) (y1 : p.2.2 < lenS r.2.2.2.2.2) : v_u17 k r p = placeS r p := by
 unfold v_u17; rw [fam_parent_s k hk r p s x0 x1 y0 y1]; rfl
theorem Reg.wl {l : List Ro} {W L : Int} (h : Reg l W L) : Wl l := fun r hr => by
 have ro := h.ok.ro r hr
 obtain ⟨c1, c2, c3, c4, _⟩ := ro.cut
 have := h.small 512 r.2.1 (h.anc ro.parent)
 exact ⟨c1, c2, by omega, c4⟩

theorem size_some {l : List Ro} {W L id : Int} {r : Ro} (h0 : id ≠ 0) (e : look l id = some r) : sizeS l W L id = (r.2.2.2.1, lenS r.2.2.2.2.2) := by
 unfold sizeS; rw [if_neg h0, e]

def upS (l : List Ro) (W L : Int) (p : Pt) : Pt × Int :=
 if errS l W L p.1 ≠ 0 then ((0, 0, 0), errS l W L p.1) else if p.1 = 0 then ((0, 0, 0), 7) else if onS l W L p ≠ 0 then ((0, 0, 0), onS l W L p)
 else match look l p.1 with
  | none => ((0, 0, 0), 0)
  | some r => (placeS r p, 0)
theorem fam_Up_s (k : Nat) (hk : 300000 ≤ k) (l : List Ro) (web : Int × Int) (p : Pt) : f_u10 k l web p = some (upS l web.1 web.2 p) := by
 obtain ⟨h1, h2⟩ := fam_find k hk l web p.1
 unfold f_u10 vA_u14 vB_u14 v_u14 upS
 by_cases h : errS l web.1 web.2 p.1 = 0
 ·obtain ⟨M, m1, m2, e⟩ := h2 h
  have kn := (errS_zero.1 h).kn
  have a := fam_on_s k (by omega) web.1 web.2 l M p m2 m1 kn
  have b := fam_on_v k (by omega) web.1 web.2 l M p m2 m1 kn
  rw [e, if_neg (fun h' : errS l web.1 web.2 p.1 ≠ 0 => h' h)]
  show (bif (p.1 == 0) then some (((0 : Int), ((0 : Int), (0 : Int))), (7 : Int)) else if (f_u26 k web.1 web.2 l M p).isSome = true then (bif (v_u26 k web.1 web.2 l M p != 0) then some (((0 : Int), ((0 : Int), (0 : Int))), v_u26 k web.1 web.2 l M p) else if ((0 : Int) ≤ (mget I p.1 M).getD 0) ∧ ((mget I p.1 M).getD 0 < (l.length : Int)) ∧ ((f_u17 k (l.getD (Int.toNat ((mget I p.1 M).getD 0)) T2.dflt) p).isSome = true) then some (v_u17 k (l.getD (Int.toNat ((mget I p.1 M).getD 0)) T2.dflt) p, (0 : Int)) else none) else none) = _
  by_cases h0 : p.1 = 0
  ·rw [show (p.1 == 0) = true from beq_iff_eq.2 h0, if_pos h0]; rfl
  ·rw [show (p.1 == 0) = false from beq_false_of_ne h0, if_neg h0, cond_false, a, b, Option.isSome_some, if_pos rfl]
   by_cases ho : onS l web.1 web.2 p = 0
   ·rw [if_neg (fun h' : onS l web.1 web.2 p ≠ 0 => h' ho), ho]
    rcases kn with kn | ⟨q, kn⟩
    ·exact absurd kn h0
    ·obtain ⟨x, e1, e2, e3⟩ := (m1 p.1).some kn
     have on := onS_zero.1 ho
     obtain ⟨a0, a1, b0, b1⟩ := on
     rw [size_some h0 kn] at a1 b1
     have hs := m2 q (look_some kn).1
     rw [e1, Option.getD_some, Int.toNat_natCast, e3, fam_parent_s k (by omega) q p hs a0 a1 b0 b1, fam_parent_v k (by omega) q p hs a0 a1 b0 b1, if_pos ⟨by omega, by omega, rfl⟩, kn]
     rfl
   ·rw [if_pos ho, bne_iff_ne.2 ho]; rfl
 ·rw [h1 h, if_pos h]
  show (bif (errS l web.1 web.2 p.1 != 0) then _ else _) = _
  rw [bne_iff_ne.2 h]; rfl
theorem fam_Up_v (k : Nat) (hk : 300000 ≤ k) (l : List Ro) (web : Int × Int) (p : Pt) : v_u10 k l web p = upS l web.1 web.2 p := by
 unfold v_u10; rw [fam_Up_s k hk l web p]; rfl
theorem fam_up_l (k : Nat) (hk : 304 ≤ k) (W L : Int) (l : List Ro) (reg : Reg l W L) (M : List (Int × Int)) (hM : RegOk M l) (p0 : Pt) (z : Int) : ∀ (n : Nat) (p : Pt) (j : Nat), Anc l n p.1 → On l W L p → n < j →
  f_u29_0 k p0 z W L l M j p p.1 = some (webS l n p, 0) := by
 intro n
 induction n with
 | zero =>
  intro p j ha ho hj
  obtain ⟨j, rfl⟩ : ∃ q, j = q + 1 := ⟨j - 1, by omega⟩
  have h0 : p.1 = 0 := by
   generalize hp : p.1 = id at ha
   cases ha with
   | root => rfl
  rw [f_u29_0, h0]; rfl
 | succ n ih =>
  intro p j ha ho hj
  obtain ⟨j, rfl⟩ : ∃ q, j = q + 1 := ⟨j - 1, by omega⟩
  rw [f_u29_0]
  by_cases h0 : p.1 = 0
  ·rw [h0]
   unfold webS
   rw [if_pos h0]; rfl
  ·unfold webS
   rw [if_neg h0, bne_iff_ne.2 h0, cond_true]
   have hx : ∃ r, look l p.1 = some r ∧ Anc l n r.2.1 := by
    generalize hp : p.1 = id at ha
    cases ha with
    | root => exact absurd hp h0
    | step _ _ r _ e a => exact ⟨r, e, a⟩
   obtain ⟨r, e, a⟩ := hx
   have hr := (look_some e).1
   have ho2 := ho.place h0 e (reg.ok.ro r hr)
   obtain ⟨x, e1, e2, e3⟩ := (hM p.1).some e
   obtain ⟨a0, a1, b0, b1⟩ := ho
   rw [size_some h0 e] at a1 b1
   have hs := reg.wl r hr
   have hx : (x : Int) < (l.length : Int) := by omega
   have hf : f_u2 k p r = some (placeS r p) := by
    unfold f_u2
    rw [fam_parent_s k hk r p hs a0 a1 b0 b1, fam_parent_v k hk r p hs a0 a1 b0 b1]; rfl
   have hv : v_u2 k p r = placeS r p := by unfold v_u2; rw [hf]; rfl
   rw [e, e1, Option.getD_some, Int.toNat_natCast, e3, hf, hv, if_pos ⟨by omega, hx⟩, Option.isSome_some, if_pos rfl]
   exact ih (placeS r p) j a ho2 (by omega)
def webE (l : List Ro) (W L : Int) (p : Pt) : Pt × Int := if onE l W L p ≠ 0 then ((0, 0, 0), onE l W L p) else (webS l 512 p, 0)
theorem fam_Web_s (k : Nat) (hk : 300000 ≤ k) (l : List Ro) (web : Int × Int) (p : Pt) : f_u11 k l web p = some (webE l web.1 web.2 p) := by
 obtain ⟨h1, h2⟩ := fam_find k hk l web p.1
 unfold f_u11 vA_u14 vB_u14 v_u14 webE onE
 by_cases h : errS l web.1 web.2 p.1 = 0
 ·obtain ⟨M, m1, m2, e⟩ := h2 h
  obtain ⟨reg, kn⟩ := errS_zero.1 h
  have a := fam_on_s k (by omega) web.1 web.2 l M p m2 m1 kn
  have b := fam_on_v k (by omega) web.1 web.2 l M p m2 m1 kn
  have hi : ¬ (errS l web.1 web.2 p.1 ≠ 0) := fun h' => h' h
  rw [e, if_neg hi]
  show (if (f_u26 k web.1 web.2 l M p).isSome = true then (bif (v_u26 k web.1 web.2 l M p != 0) then some (((0 : Int), ((0 : Int), (0 : Int))), v_u26 k web.1 web.2 l M p) else if (f_u28 k web.1 web.2 l M p.1).isSome = true then (if (f_u29 k p (v_u28 k web.1 web.2 l M p.1) web.1 web.2 l M).isSome = true then some ((v_u29 k p (v_u28 k web.1 web.2 l M p.1) web.1 web.2 l M).1, (0 : Int)) else none) else none) else none) = _
  rw [a, b, Option.isSome_some, if_pos rfl]
  by_cases ho : onS l web.1 web.2 p = 0
  ·have hu : f_u29 k p (v_u28 k web.1 web.2 l M p.1) web.1 web.2 l M = some (webS l 512 p, 0) := by
    unfold f_u29
    exact fam_up_l k (by omega) web.1 web.2 l reg M m1 p _ 512 p k (reg.anc kn) (onS_zero.1 ho) (by omega)
   unfold v_u29
   rw [hu, ho]; rfl
  ·rw [if_pos ho, bne_iff_ne.2 ho]; rfl
 ·rw [h1 h, if_pos h, if_pos h]
  show (bif (errS l web.1 web.2 p.1 != 0) then _ else _) = _
  rw [bne_iff_ne.2 h]; rfl
theorem fam_Web_v (k : Nat) (hk : 300000 ≤ k) (l : List Ro) (web : Int × Int) (p : Pt) : v_u11 k l web p = webE l web.1 web.2 p := by
 unfold v_u11; rw [fam_Web_s k hk l web p]; rfl
end Go.AM
namespace Go.AM
open Go Go.Proofs Go.IntKind
set_option linter.unusedVariables false
noncomputable section
abbrev R_u18 : Type := T1.T × Int
def res_u18 (r : R_u18) : AV := .tup [.agg (rvs (enc T1 r.1)), .r (.v (.int .i64 r.2))]
def bo_u18 (g_0 : Int) (g_1 : Int) (g_2 : List (T2).T) (g_3 : List ((I).T × (I).T)) (id_ : Int) (r : R_u18) : List (Nat × Blk) := [(0, .var 73 [.r (.v (.int .i64 g_0)), .r (.v (.int .i64 g_1)), .r (.ro T2 g_2), .own 1 0]), (0, .map false I I g_3)]
def args_u18 (g_0 : Int) (g_1 : Int) (g_2 : List (T2).T) (g_3 : List ((I).T × (I).T)) (id_ : Int) : List AV := [.ptr 0 0 0, .r (.v (.int .i64 id_))]
def bin_u18 (g_0 : Int) (g_1 : Int) (g_2 : List (T2).T) (g_3 : List ((I).T × (I).T)) (id_ : Int) : List Blk := [.var 73 [.r (.v (.int .i64 g_0)), .r (.v (.int .i64 g_1)), .r (.ro T2 g_2), .own 1 0], .map false I I g_3]
def w_u18 (g : Int → Int → List (T2).T → (List ((I).T × (I).T)) → Int → Option R_u18) (g_0 : Int) (g_1 : Int) (g_2 : List (T2).T) (g_3 : List ((I).T × (I).T)) (id_ : Int) : R_u18 := (g g_0 g_1 g_2 g_3 id_).getD ((T1).dflt, 0)
def f_u18 : Nat → Int → Int → List (T2).T → (List ((I).T × (I).T)) → Int → Option R_u18
 | 0, _, _, _, _, _ => none
 | k + 1, g_0, g_1, g_2, g_3, id_ =>
 bif (id_ == (0 : Int)) then
 bif (decide (g_1 > (0 : Int))) then
 some (((0, (g_0, (false, [(0, g_1, false)]))), 0))
 else
 some (((0, (g_0, (false, []))), 0))
 else
 if ((0 : Int) ≤ (mget I id_ g_3).getD (0 : Int)) ∧ ((mget I id_ g_3).getD (0 : Int) < (↑g_2.length : Int)) then
 if ((f_u18 k g_0 g_1 g_2 g_3 (g_2.getD (Int.toNat ((mget I id_ g_3).getD 0)) T2.dflt).2.1).isSome = true) then
 bif ((w_u18 (f_u18 k) g_0 g_1 g_2 g_3 (g_2.getD (Int.toNat ((mget I id_ g_3).getD (0 : Int))) T2.dflt).2.1).2 != (0 : Int)) then
 some (((0, (0, (false, []))), (w_u18 (f_u18 k) g_0 g_1 g_2 g_3 (g_2.getD (Int.toNat ((mget I id_ g_3).getD 0)) T2.dflt).2.1).2))
 else
 if ((f_u33 k (g_2.getD (Int.toNat ((mget I id_ g_3).getD 0)) T2.dflt).2.2.2.2.2 (w_u18 (f_u18 k) g_0 g_1 g_2 g_3 (g_2.getD (Int.toNat ((mget I id_ g_3).getD 0)) T2.dflt).2.1).1.2.2.2).isSome = true) then
 bif ((v_u33 k (g_2.getD (Int.toNat ((mget I id_ g_3).getD (0 : Int))) T2.dflt).2.2.2.2.2 (w_u18 (f_u18 k) g_0 g_1 g_2 g_3 (g_2.getD (Int.toNat ((mget I id_ g_3).getD (0 : Int))) T2.dflt).2.1).1.2.2.2).2 != (0 : Int)) then
 some (((0, (0, (false, []))), (v_u33 k (g_2.getD (Int.toNat ((mget I id_ g_3).getD 0)) T2.dflt).2.2.2.2.2 (w_u18 (f_u18 k) g_0 g_1 g_2 g_3 (g_2.getD (Int.toNat ((mget I id_ g_3).getD 0)) T2.dflt).2.1).1.2.2.2).2))
 else
 bif (w_u18 (f_u18 k) g_0 g_1 g_2 g_3 (g_2.getD (Int.toNat ((mget I id_ g_3).getD (0 : Int))) T2.dflt).2.1).1.2.2.1 then
 some (((i64.wrap (i64.wrap (i64.wrap ((w_u18 (f_u18 k) g_0 g_1 g_2 g_3 (g_2.getD (Int.toNat ((mget I id_ g_3).getD 0)) T2.dflt).2.1).1.1 + (w_u18 (f_u18 k) g_0 g_1 g_2 g_3 (g_2.getD (Int.toNat ((mget I id_ g_3).getD 0)) T2.dflt).2.1).1.2.1) - (g_2.getD (Int.toNat ((mget I id_ g_3).getD 0)) T2.dflt).2.2.1) - (g_2.getD (Int.toNat ((mget I id_ g_3).getD 0)) T2.dflt).2.2.2.1), ((g_2.getD (Int.toNat ((mget I id_ g_3).getD 0)) T2.dflt).2.2.2.1, (! (w_u18 (f_u18 k) g_0 g_1 g_2 g_3 (g_2.getD (Int.toNat ((mget I id_ g_3).getD 0)) T2.dflt).2.1).1.2.2.1 == (g_2.getD (Int.toNat ((mget I id_ g_3).getD 0)) T2.dflt).2.2.2.2.1, (v_u33 k (g_2.getD (Int.toNat ((mget I id_ g_3).getD 0)) T2.dflt).2.2.2.2.2 (w_u18 (f_u18 k) g_0 g_1 g_2 g_3 (g_2.getD (Int.toNat ((mget I id_ g_3).getD 0)) T2.dflt).2.1).1.2.2.2).1))), 0))
 else
 some (((i64.wrap ((w_u18 (f_u18 k) g_0 g_1 g_2 g_3 (g_2.getD (Int.toNat ((mget I id_ g_3).getD 0)) T2.dflt).2.1).1.1 + (g_2.getD (Int.toNat ((mget I id_ g_3).getD 0)) T2.dflt).2.2.1), ((g_2.getD (Int.toNat ((mget I id_ g_3).getD 0)) T2.dflt).2.2.2.1, (! (w_u18 (f_u18 k) g_0 g_1 g_2 g_3 (g_2.getD (Int.toNat ((mget I id_ g_3).getD 0)) T2.dflt).2.1).1.2.2.1 == (g_2.getD (Int.toNat ((mget I id_ g_3).getD 0)) T2.dflt).2.2.2.2.1, (v_u33 k (g_2.getD (Int.toNat ((mget I id_ g_3).getD 0)) T2.dflt).2.2.2.2.2 (w_u18 (f_u18 k) g_0 g_1 g_2 g_3 (g_2.getD (Int.toNat ((mget I id_ g_3).getD 0)) T2.dflt).2.1).1.2.2.2).1))), 0))
 else none
 else none
 else none
def v_u18 (k : Nat) (g_0 : Int) (g_1 : Int) (g_2 : List (T2).T) (g_3 : List ((I).T × (I).T)) (id_ : Int) : R_u18 := (f_u18 k g_0 g_1 g_2 g_3 id_).getD ((T1).dflt, 0)
def K_u18 (k : Nat) : Calld := ⟨fun g xs => match g with
 | 53 => match xs with
  | [_, _] => some [false, false]
  | _ => none
 | 37 => match xs with
  | [.ptr _ _ _, _] => some [true, false]
  | _ => none
 | _ => none, fun g xs bs => match g with
 | 53 => match xs, bs with
  | [.r (.ro tinner__ qinner_), .r (.ro touter__ qouter_)], [] => (castL tinner__ T0 qinner_).bind fun inner_ => (castL touter__ T0 qouter_).bind fun outer_ => some (.one (res_u33 (v_u33 k inner_ outer_), bo_u33 inner_ outer_ (v_u33 k inner_ outer_)))
  | _, _ => none
 | 37 => match xs, bs with
  | [.ptr 0 0 0, .r (.v (.int .i64 id_))], [.var 73 [.r (.v (.int .i64 g_0)), .r (.v (.int .i64 g_1)), .r (.ro tg_2_ qg_2), .own 1 0], .map false kg_3_ tg_3_ qg_3] => (castL tg_2_ T2 qg_2).bind fun g_2 => (castM kg_3_ tg_3_ I I qg_3).bind fun g_3 => some (.one (res_u18 (v_u18 k g_0 g_1 g_2 g_3 id_), bo_u18 g_0 g_1 g_2 g_3 id_ (v_u18 k g_0 g_1 g_2 g_3 id_)))
  | _, _ => none
 | _ => none⟩
theorem of_u18 : ∀ (k : Nat) (g_0 : Int) (g_1 : Int) (g_2 : List (T2).T) (g_3 : List ((I).T × (I).T)) (id_ : Int) (r : R_u18), f_u18 k g_0 g_1 g_2 g_3 id_ = some r → CC Tryz.prog 37 (args_u18 g_0 g_1 g_2 g_3 id_) (bin_u18 g_0 g_1 g_2 g_3 id_) (res_u18 r) (bo_u18 g_0 g_1 g_2 g_3 id_ r)
 | 0, g_0, g_1, g_2, g_3, id_, r, h => by simp [f_u18] at h
 | k + 1, g_0, g_1, g_2, g_3, id_, r, h => by
  have ih : ∀ (g_0 : Int) (g_1 : Int) (g_2 : List (T2).T) (g_3 : List ((I).T × (I).T)) (id_ : Int), (f_u18 k g_0 g_1 g_2 g_3 id_).isSome = true → CC Tryz.prog 37 (args_u18 g_0 g_1 g_2 g_3 id_) (bin_u18 g_0 g_1 g_2 g_3 id_) (res_u18 (v_u18 k g_0 g_1 g_2 g_3 id_)) (bo_u18 g_0 g_1 g_2 g_3 id_ (v_u18 k g_0 g_1 g_2 g_3 id_)) := fun g_0 g_1 g_2 g_3 id_ h => by
   cases e : f_u18 k g_0 g_1 g_2 g_3 id_ with
   | none => rw [e] at h; cases h
   | some r => rw [show v_u18 k g_0 g_1 g_2 g_3 id_ = r by simp [v_u18, e]]; exact of_u18 k g_0 g_1 g_2 g_3 id_ r e
  refine CC.of (fn := Tryz.f37) (by kernel_rfl) (by kernel_rfl) (by kernel_rfl) (by kernel_rfl) ?_
  rw [f_u18] at h
  refine Ev.tree hm (R := Rt) (K := (K_u18 k)) (l := []) (C := []) (E := [.frz 4 true T1, .autoB [4, 5] true []]) (n := 1000) (T := .test ((id_ == (0 : Int))) (.test ((decide (g_1 > (0 : Int)))) (.leaf (res_u18 (((0, (g_0, (false, [(0, g_1, false)]))), 0))) (bo_u18 g_0 g_1 g_2 g_3 id_ (((0, (g_0, (false, [(0, g_1, false)]))), 0)))) (.leaf (res_u18 (((0, (g_0, (false, []))), 0))) (bo_u18 g_0 g_1 g_2 g_3 id_ (((0, (g_0, (false, []))), 0))))) (.need [(0 : Int) ≤ (mget I id_ g_3).getD (0 : Int), (mget I id_ g_3).getD (0 : Int) < (↑g_2.length : Int)] (.need [CC Tryz.prog 37 (args_u18 g_0 g_1 g_2 g_3 (g_2.getD (Int.toNat ((mget I id_ g_3).getD 0)) T2.dflt).2.1) (bin_u18 g_0 g_1 g_2 g_3 (g_2.getD (Int.toNat ((mget I id_ g_3).getD 0)) T2.dflt).2.1) (res_u18 (v_u18 k g_0 g_1 g_2 g_3 (g_2.getD (Int.toNat ((mget I id_ g_3).getD 0)) T2.dflt).2.1)) (bo_u18 g_0 g_1 g_2 g_3 (g_2.getD (Int.toNat ((mget I id_ g_3).getD 0)) T2.dflt).2.1 (v_u18 k g_0 g_1 g_2 g_3 (g_2.getD (Int.toNat ((mget I id_ g_3).getD 0)) T2.dflt).2.1))] (.test (((v_u18 k g_0 g_1 g_2 g_3 (g_2.getD (Int.toNat ((mget I id_ g_3).getD (0 : Int))) T2.dflt).2.1).2 != (0 : Int))) (.leaf (res_u18 (((0, (0, (false, []))), (v_u18 k g_0 g_1 g_2 g_3 (g_2.getD (Int.toNat ((mget I id_ g_3).getD 0)) T2.dflt).2.1).2))) (bo_u18 g_0 g_1 g_2 g_3 id_ (((0, (0, (false, []))), (v_u18 k g_0 g_1 g_2 g_3 (g_2.getD (Int.toNat ((mget I id_ g_3).getD 0)) T2.dflt).2.1).2)))) (.need [CC Tryz.prog 53 (args_u33 (g_2.getD (Int.toNat ((mget I id_ g_3).getD 0)) T2.dflt).2.2.2.2.2 (v_u18 k g_0 g_1 g_2 g_3 (g_2.getD (Int.toNat ((mget I id_ g_3).getD 0)) T2.dflt).2.1).1.2.2.2) (bin_u33 (g_2.getD (Int.toNat ((mget I id_ g_3).getD 0)) T2.dflt).2.2.2.2.2 (v_u18 k g_0 g_1 g_2 g_3 (g_2.getD (Int.toNat ((mget I id_ g_3).getD 0)) T2.dflt).2.1).1.2.2.2) (res_u33 (v_u33 k (g_2.getD (Int.toNat ((mget I id_ g_3).getD 0)) T2.dflt).2.2.2.2.2 (v_u18 k g_0 g_1 g_2 g_3 (g_2.getD (Int.toNat ((mget I id_ g_3).getD 0)) T2.dflt).2.1).1.2.2.2)) (bo_u33 (g_2.getD (Int.toNat ((mget I id_ g_3).getD 0)) T2.dflt).2.2.2.2.2 (v_u18 k g_0 g_1 g_2 g_3 (g_2.getD (Int.toNat ((mget I id_ g_3).getD 0)) T2.dflt).2.1).1.2.2.2 (v_u33 k (g_2.getD (Int.toNat ((mget I id_ g_3).getD 0)) T2.dflt).2.2.2.2.2 (v_u18 k g_0 g_1 g_2 g_3 (g_2.getD (Int.toNat ((mget I id_ g_3).getD 0)) T2.dflt).2.1).1.2.2.2))] (.test (((v_u33 k (g_2.getD (Int.toNat ((mget I id_ g_3).getD (0 : Int))) T2.dflt).2.2.2.2.2 (v_u18 k g_0 g_1 g_2 g_3 (g_2.getD (Int.toNat ((mget I id_ g_3).getD (0 : Int))) T2.dflt).2.1).1.2.2.2).2 != (0 : Int))) (.leaf (res_u18 (((0, (0, (false, []))), (v_u33 k (g_2.getD (Int.toNat ((mget I id_ g_3).getD 0)) T2.dflt).2.2.2.2.2 (v_u18 k g_0 g_1 g_2 g_3 (g_2.getD (Int.toNat ((mget I id_ g_3).getD 0)) T2.dflt).2.1).1.2.2.2).2))) (bo_u18 g_0 g_1 g_2 g_3 id_ (((0, (0, (false, []))), (v_u33 k (g_2.getD (Int.toNat ((mget I id_ g_3).getD 0)) T2.dflt).2.2.2.2.2 (v_u18 k g_0 g_1 g_2 g_3 (g_2.getD (Int.toNat ((mget I id_ g_3).getD 0)) T2.dflt).2.1).1.2.2.2).2)))) (.test ((v_u18 k g_0 g_1 g_2 g_3 (g_2.getD (Int.toNat ((mget I id_ g_3).getD (0 : Int))) T2.dflt).2.1).1.2.2.1) (.leaf (res_u18 (((i64.wrap (i64.wrap (i64.wrap ((v_u18 k g_0 g_1 g_2 g_3 (g_2.getD (Int.toNat ((mget I id_ g_3).getD 0)) T2.dflt).2.1).1.1 + (v_u18 k g_0 g_1 g_2 g_3 (g_2.getD (Int.toNat ((mget I id_ g_3).getD 0)) T2.dflt).2.1).1.2.1) - (g_2.getD (Int.toNat ((mget I id_ g_3).getD 0)) T2.dflt).2.2.1) - (g_2.getD (Int.toNat ((mget I id_ g_3).getD 0)) T2.dflt).2.2.2.1), ((g_2.getD (Int.toNat ((mget I id_ g_3).getD 0)) T2.dflt).2.2.2.1, (! (v_u18 k g_0 g_1 g_2 g_3 (g_2.getD (Int.toNat ((mget I id_ g_3).getD 0)) T2.dflt).2.1).1.2.2.1 == (g_2.getD (Int.toNat ((mget I id_ g_3).getD 0)) T2.dflt).2.2.2.2.1, (v_u33 k (g_2.getD (Int.toNat ((mget I id_ g_3).getD 0)) T2.dflt).2.2.2.2.2 (v_u18 k g_0 g_1 g_2 g_3 (g_2.getD (Int.toNat ((mget I id_ g_3).getD 0)) T2.dflt).2.1).1.2.2.2).1))), 0))) (bo_u18 g_0 g_1 g_2 g_3 id_ (((i64.wrap (i64.wrap (i64.wrap ((v_u18 k g_0 g_1 g_2 g_3 (g_2.getD (Int.toNat ((mget I id_ g_3).getD 0)) T2.dflt).2.1).1.1 + (v_u18 k g_0 g_1 g_2 g_3 (g_2.getD (Int.toNat ((mget I id_ g_3).getD 0)) T2.dflt).2.1).1.2.1) - (g_2.getD (Int.toNat ((mget I id_ g_3).getD 0)) T2.dflt).2.2.1) - (g_2.getD (Int.toNat ((mget I id_ g_3).getD 0)) T2.dflt).2.2.2.1), ((g_2.getD (Int.toNat ((mget I id_ g_3).getD 0)) T2.dflt).2.2.2.1, (! (v_u18 k g_0 g_1 g_2 g_3 (g_2.getD (Int.toNat ((mget I id_ g_3).getD 0)) T2.dflt).2.1).1.2.2.1 == (g_2.getD (Int.toNat ((mget I id_ g_3).getD 0)) T2.dflt).2.2.2.2.1, (v_u33 k (g_2.getD (Int.toNat ((mget I id_ g_3).getD 0)) T2.dflt).2.2.2.2.2 (v_u18 k g_0 g_1 g_2 g_3 (g_2.getD (Int.toNat ((mget I id_ g_3).getD 0)) T2.dflt).2.1).1.2.2.2).1))), 0)))) (.leaf (res_u18 (((i64.wrap ((v_u18 k g_0 g_1 g_2 g_3 (g_2.getD (Int.toNat ((mget I id_ g_3).getD 0)) T2.dflt).2.1).1.1 + (g_2.getD (Int.toNat ((mget I id_ g_3).getD 0)) T2.dflt).2.2.1), ((g_2.getD (Int.toNat ((mget I id_ g_3).getD 0)) T2.dflt).2.2.2.1, (! (v_u18 k g_0 g_1 g_2 g_3 (g_2.getD (Int.toNat ((mget I id_ g_3).getD 0)) T2.dflt).2.1).1.2.2.1 == (g_2.getD (Int.toNat ((mget I id_ g_3).getD 0)) T2.dflt).2.2.2.2.1, (v_u33 k (g_2.getD (Int.toNat ((mget I id_ g_3).getD 0)) T2.dflt).2.2.2.2.2 (v_u18 k g_0 g_1 g_2 g_3 (g_2.getD (Int.toNat ((mget I id_ g_3).getD 0)) T2.dflt).2.1).1.2.2.2).1))), 0))) (bo_u18 g_0 g_1 g_2 g_3 id_ (((i64.wrap ((v_u18 k g_0 g_1 g_2 g_3 (g_2.getD (Int.toNat ((mget I id_ g_3).getD 0)) T2.dflt).2.1).1.1 + (g_2.getD (Int.toNat ((mget I id_ g_3).getD 0)) T2.dflt).2.2.1), ((g_2.getD (Int.toNat ((mget I id_ g_3).getD 0)) T2.dflt).2.2.2.1, (! (v_u18 k g_0 g_1 g_2 g_3 (g_2.getD (Int.toNat ((mget I id_ g_3).getD 0)) T2.dflt).2.1).1.2.2.1 == (g_2.getD (Int.toNat ((mget I id_ g_3).getD 0)) T2.dflt).2.2.2.2.1, (v_u33 k (g_2.getD (Int.toNat ((mget I id_ g_3).getD 0)) T2.dflt).2.2.2.2.2 (v_u18 k g_0 g_1 g_2 g_3 (g_2.getD (Int.toNat ((mget I id_ g_3).getD 0)) T2.dflt).2.1).1.2.2.2).1))), 0))))))))))) (by kernel_rfl) ?_
  refine ⟨fun c => ?_, fun c => ?_⟩
  ·rw [cond_t (show ((id_ == (0 : Int))) = true from c)] at h
   refine ⟨fun c => ?_, fun c => ?_⟩
   ·rw [cond_t (show ((decide (g_1 > (0 : Int)))) = true from c)] at h
    cases h; exact ⟨rfl, rfl⟩
   ·rw [cond_f (show ((decide (g_1 > (0 : Int)))) = false from c)] at h
    cases h; exact ⟨rfl, rfl⟩
  ·rw [cond_f (show ((id_ == (0 : Int))) = false from c)] at h
   by_cases q : ((0 : Int) ≤ (mget I id_ g_3).getD (0 : Int)) ∧ ((mget I id_ g_3).getD (0 : Int) < (↑g_2.length : Int))
   ·rw [if_pos q] at h
    refine ⟨(conjC q.1 (conjC q.2 conj0)), ?_⟩
    by_cases q : ((f_u18 k g_0 g_1 g_2 g_3 (g_2.getD (Int.toNat ((mget I id_ g_3).getD 0)) T2.dflt).2.1).isSome = true)
    ·rw [if_pos q] at h
     refine ⟨(conjC (ih g_0 g_1 g_2 g_3 (g_2.getD (Int.toNat ((mget I id_ g_3).getD 0)) T2.dflt).2.1 q) conj0), ?_⟩
     refine ⟨fun c => ?_, fun c => ?_⟩
     ·rw [cond_t (show (((w_u18 (f_u18 k) g_0 g_1 g_2 g_3 (g_2.getD (Int.toNat ((mget I id_ g_3).getD (0 : Int))) T2.dflt).2.1).2 != (0 : Int))) = true from c)] at h
      cases h; exact ⟨rfl, rfl⟩
     ·rw [cond_f (show (((w_u18 (f_u18 k) g_0 g_1 g_2 g_3 (g_2.getD (Int.toNat ((mget I id_ g_3).getD (0 : Int))) T2.dflt).2.1).2 != (0 : Int))) = false from c)] at h
      by_cases q : ((f_u33 k (g_2.getD (Int.toNat ((mget I id_ g_3).getD 0)) T2.dflt).2.2.2.2.2 (w_u18 (f_u18 k) g_0 g_1 g_2 g_3 (g_2.getD (Int.toNat ((mget I id_ g_3).getD 0)) T2.dflt).2.1).1.2.2.2).isSome = true)
      ·rw [if_pos q] at h
       refine ⟨(conjC (cc_u33 k (g_2.getD (Int.toNat ((mget I id_ g_3).getD 0)) T2.dflt).2.2.2.2.2 (v_u18 k g_0 g_1 g_2 g_3 (g_2.getD (Int.toNat ((mget I id_ g_3).getD 0)) T2.dflt).2.1).1.2.2.2 q) conj0), ?_⟩
       refine ⟨fun c => ?_, fun c => ?_⟩
       ·rw [cond_t (show (((v_u33 k (g_2.getD (Int.toNat ((mget I id_ g_3).getD (0 : Int))) T2.dflt).2.2.2.2.2 (w_u18 (f_u18 k) g_0 g_1 g_2 g_3 (g_2.getD (Int.toNat ((mget I id_ g_3).getD (0 : Int))) T2.dflt).2.1).1.2.2.2).2 != (0 : Int))) = true from c)] at h
        cases h; exact ⟨rfl, rfl⟩
       ·rw [cond_f (show (((v_u33 k (g_2.getD (Int.toNat ((mget I id_ g_3).getD (0 : Int))) T2.dflt).2.2.2.2.2 (w_u18 (f_u18 k) g_0 g_1 g_2 g_3 (g_2.getD (Int.toNat ((mget I id_ g_3).getD (0 : Int))) T2.dflt).2.1).1.2.2.2).2 != (0 : Int))) = false from c)] at h
        refine ⟨fun c => ?_, fun c => ?_⟩
        ·rw [cond_t (show ((w_u18 (f_u18 k) g_0 g_1 g_2 g_3 (g_2.getD (Int.toNat ((mget I id_ g_3).getD (0 : Int))) T2.dflt).2.1).1.2.2.1) = true from c)] at h
         cases h; exact ⟨rfl, rfl⟩
        ·rw [cond_f (show ((w_u18 (f_u18 k) g_0 g_1 g_2 g_3 (g_2.getD (Int.toNat ((mget I id_ g_3).getD (0 : Int))) T2.dflt).2.1).1.2.2.1) = false from c)] at h
         cases h; exact ⟨rfl, rfl⟩
      ·rw [if_neg q] at h; cases h
    ·rw [if_neg q] at h; cases h
   ·rw [if_neg q] at h; cases h
theorem cc_u18 (k : Nat) (g_0 : Int) (g_1 : Int) (g_2 : List (T2).T) (g_3 : List ((I).T × (I).T)) (id_ : Int) (h : (f_u18 k g_0 g_1 g_2 g_3 id_).isSome = true) : CC Tryz.prog 37 (args_u18 g_0 g_1 g_2 g_3 id_) (bin_u18 g_0 g_1 g_2 g_3 id_) (res_u18 (v_u18 k g_0 g_1 g_2 g_3 id_)) (bo_u18 g_0 g_1 g_2 g_3 id_ (v_u18 k g_0 g_1 g_2 g_3 id_)) := by
 cases e : f_u18 k g_0 g_1 g_2 g_3 id_ with
 | none => rw [e] at h; cases h
 | some r => rw [show v_u18 k g_0 g_1 g_2 g_3 id_ = r by simp [v_u18, e]]; exact of_u18 k g_0 g_1 g_2 g_3 id_ r e

end
end Go.AM
namespace Go.AM
open Go Go.Proofs Go.IntKind
set_option linter.unusedVariables false
noncomputable section
abbrev R_u5 : Type := T1.T × Int
def res_u5 (r : R_u5) : AV := .tup [.agg (rvs (enc T1 r.1)), .r (.v (.int .i64 r.2))]
def bo_u5 (l_ : List (T2).T) (web_ : T5.T) (id_ : Int) (r : R_u5) : List (Nat × Blk) := []
def args_u5 (l_ : List (T2).T) (web_ : T5.T) (id_ : Int) : List AV := [.r (.ro T2 l_), .agg (rvs (enc T5 web_)), .r (.v (.int .i64 id_))]
def bin_u5 (l_ : List (T2).T) (web_ : T5.T) (id_ : Int) : List Blk := []
def f_u5 (k : Nat) (l_ : List (T2).T) (web_ : T5.T) (id_ : Int) : Option R_u5 :=
 bif (Sum.isLeft (v_u14 k l_ web_ id_)) then
 if ((f_u14 k l_ web_ id_).isSome = true) then
 bif (vA_u14 k l_ web_ id_ != (0 : Int)) then
 some (((0, (0, (false, []))), vA_u14 k l_ web_ id_))
 else
 none
 else none
 else
 if ((f_u14 k l_ web_ id_).isSome = true) then
 bif ((vB_u14 k l_ web_ id_).1 != (0 : Int)) then
 some (((0, (0, (false, []))), (vB_u14 k l_ web_ id_).1))
 else
 if ((f_u18 k (vB_u14 k l_ web_ id_).2.1 (vB_u14 k l_ web_ id_).2.2.1 (vB_u14 k l_ web_ id_).2.2.2.1 (vB_u14 k l_ web_ id_).2.2.2.2 id_).isSome = true) then
 some (((v_u18 k (vB_u14 k l_ web_ id_).2.1 (vB_u14 k l_ web_ id_).2.2.1 (vB_u14 k l_ web_ id_).2.2.2.1 (vB_u14 k l_ web_ id_).2.2.2.2 id_).1, (v_u18 k (vB_u14 k l_ web_ id_).2.1 (vB_u14 k l_ web_ id_).2.2.1 (vB_u14 k l_ web_ id_).2.2.2.1 (vB_u14 k l_ web_ id_).2.2.2.2 id_).2))
 else none
 else none
def v_u5 (k : Nat) (l_ : List (T2).T) (web_ : T5.T) (id_ : Int) : R_u5 := (f_u5 k l_ web_ id_).getD ((T1).dflt, 0)
def K_u5 (k : Nat) : Calld := ⟨fun g xs => match g with
 | 30 => match xs with
  | [_, _, _] => some [false, false, false]
  | _ => none
 | 37 => match xs with
  | [.ptr _ _ _, _] => some [true, false]
  | _ => none
 | _ => none, fun g xs bs => match g with
 | 30 => match xs, bs with
  | [.r (.ro tl__ ql_), .agg qweb_, .r (.v (.int .i64 id_))], [] => (castL tl__ T2 ql_).bind fun l_ => (decS [] T5 qweb_).bind fun web_ => some (.two (v_u14 k l_ web_ id_).isLeft (resA_u14 (vA_u14 k l_ web_ id_), boA_u14 l_ web_ id_ (vA_u14 k l_ web_ id_)) (resB_u14 (vB_u14 k l_ web_ id_), boB_u14 l_ web_ id_ (vB_u14 k l_ web_ id_)))
  | _, _ => none
 | 37 => match xs, bs with
  | [.ptr 0 0 0, .r (.v (.int .i64 id_))], [.var 73 [.r (.v (.int .i64 g_0)), .r (.v (.int .i64 g_1)), .r (.ro tg_2_ qg_2), .own 1 0], .map false kg_3_ tg_3_ qg_3] => (castL tg_2_ T2 qg_2).bind fun g_2 => (castM kg_3_ tg_3_ I I qg_3).bind fun g_3 => some (.one (res_u18 (v_u18 k g_0 g_1 g_2 g_3 id_), bo_u18 g_0 g_1 g_2 g_3 id_ (v_u18 k g_0 g_1 g_2 g_3 id_)))
  | _, _ => none
 | _ => none⟩
theorem of_u5 (k : Nat) (l_ : List (T2).T) (web_ : T5.T) (id_ : Int) (r : R_u5) (h : f_u5 k l_ web_ id_ = some r) : CC Tryz.prog 16 (args_u5 l_ web_ id_) (bin_u5 l_ web_ id_) (res_u5 r) (bo_u5 l_ web_ id_ r) := by
 refine CC.of (fn := Tryz.f16) (by kernel_rfl) (by kernel_rfl) (by kernel_rfl) (by kernel_rfl) ?_
 unfold f_u5 at h
 refine Ev.tree hm (R := Rt) (K := (K_u5 k)) (l := []) (C := []) (E := [.frz 6 true T1, .autoB [6, 7] true []]) (n := 1000) (T := .test ((Sum.isLeft (v_u14 k l_ web_ id_))) (.need [CC Tryz.prog 30 (args_u14 l_ web_ id_) (bin_u14 l_ web_ id_) (resA_u14 (vA_u14 k l_ web_ id_)) (boA_u14 l_ web_ id_ (vA_u14 k l_ web_ id_))] (.test ((vA_u14 k l_ web_ id_ != (0 : Int))) (.leaf (res_u5 (((0, (0, (false, []))), vA_u14 k l_ web_ id_))) (bo_u5 l_ web_ id_ (((0, (0, (false, []))), vA_u14 k l_ web_ id_)))) (.stuck 2002))) (.need [CC Tryz.prog 30 (args_u14 l_ web_ id_) (bin_u14 l_ web_ id_) (resB_u14 (vB_u14 k l_ web_ id_)) (boB_u14 l_ web_ id_ (vB_u14 k l_ web_ id_))] (.test (((vB_u14 k l_ web_ id_).1 != (0 : Int))) (.leaf (res_u5 (((0, (0, (false, []))), (vB_u14 k l_ web_ id_).1))) (bo_u5 l_ web_ id_ (((0, (0, (false, []))), (vB_u14 k l_ web_ id_).1)))) (.need [CC Tryz.prog 37 (args_u18 (vB_u14 k l_ web_ id_).2.1 (vB_u14 k l_ web_ id_).2.2.1 (vB_u14 k l_ web_ id_).2.2.2.1 (vB_u14 k l_ web_ id_).2.2.2.2 id_) (bin_u18 (vB_u14 k l_ web_ id_).2.1 (vB_u14 k l_ web_ id_).2.2.1 (vB_u14 k l_ web_ id_).2.2.2.1 (vB_u14 k l_ web_ id_).2.2.2.2 id_) (res_u18 (v_u18 k (vB_u14 k l_ web_ id_).2.1 (vB_u14 k l_ web_ id_).2.2.1 (vB_u14 k l_ web_ id_).2.2.2.1 (vB_u14 k l_ web_ id_).2.2.2.2 id_)) (bo_u18 (vB_u14 k l_ web_ id_).2.1 (vB_u14 k l_ web_ id_).2.2.1 (vB_u14 k l_ web_ id_).2.2.2.1 (vB_u14 k l_ web_ id_).2.2.2.2 id_ (v_u18 k (vB_u14 k l_ web_ id_).2.1 (vB_u14 k l_ web_ id_).2.2.1 (vB_u14 k l_ web_ id_).2.2.2.1 (vB_u14 k l_ web_ id_).2.2.2.2 id_))] (.leaf (res_u5 (((v_u18 k (vB_u14 k l_ web_ id_).2.1 (vB_u14 k l_ web_ id_).2.2.1 (vB_u14 k l_ web_ id_).2.2.2.1 (vB_u14 k l_ web_ id_).2.2.2.2 id_).1, (v_u18 k (vB_u14 k l_ web_ id_).2.1 (vB_u14 k l_ web_ id_).2.2.1 (vB_u14 k l_ web_ id_).2.2.2.1 (vB_u14 k l_ web_ id_).2.2.2.2 id_).2))) (bo_u5 l_ web_ id_ (((v_u18 k (vB_u14 k l_ web_ id_).2.1 (vB_u14 k l_ web_ id_).2.2.1 (vB_u14 k l_ web_ id_).2.2.2.1 (vB_u14 k l_ web_ id_).2.2.2.2 id_).1, (v_u18 k (vB_u14 k l_ web_ id_).2.1 (vB_u14 k l_ web_ id_).2.2.1 (vB_u14 k l_ web_ id_).2.2.2.1 (vB_u14 k l_ web_ id_).2.2.2.2 id_).2)))))))) (by kernel_rfl) ?_
 refine ⟨fun c => ?_, fun c => ?_⟩
 ·rw [cond_t (show ((Sum.isLeft (v_u14 k l_ web_ id_))) = true from c)] at h
  by_cases q : ((f_u14 k l_ web_ id_).isSome = true)
  ·rw [if_pos q] at h
   refine ⟨(conjC (ccA_u14 k l_ web_ id_ q (by assumption)) conj0), ?_⟩
   refine ⟨fun c => ?_, fun c => ?_⟩
   ·rw [cond_t (show ((vA_u14 k l_ web_ id_ != (0 : Int))) = true from c)] at h
    cases h; exact ⟨rfl, rfl⟩
   ·rw [cond_f (show ((vA_u14 k l_ web_ id_ != (0 : Int))) = false from c)] at h
    cases h
  ·rw [if_neg q] at h; cases h
 ·rw [cond_f (show ((Sum.isLeft (v_u14 k l_ web_ id_))) = false from c)] at h
  by_cases q : ((f_u14 k l_ web_ id_).isSome = true)
  ·rw [if_pos q] at h
   refine ⟨(conjC (ccB_u14 k l_ web_ id_ q (by assumption)) conj0), ?_⟩
   refine ⟨fun c => ?_, fun c => ?_⟩
   ·rw [cond_t (show (((vB_u14 k l_ web_ id_).1 != (0 : Int))) = true from c)] at h
    cases h; exact ⟨rfl, rfl⟩
   ·rw [cond_f (show (((vB_u14 k l_ web_ id_).1 != (0 : Int))) = false from c)] at h
    by_cases q : ((f_u18 k (vB_u14 k l_ web_ id_).2.1 (vB_u14 k l_ web_ id_).2.2.1 (vB_u14 k l_ web_ id_).2.2.2.1 (vB_u14 k l_ web_ id_).2.2.2.2 id_).isSome = true)
    ·rw [if_pos q] at h
     refine ⟨(conjC (cc_u18 k (vB_u14 k l_ web_ id_).2.1 (vB_u14 k l_ web_ id_).2.2.1 (vB_u14 k l_ web_ id_).2.2.2.1 (vB_u14 k l_ web_ id_).2.2.2.2 id_ q) conj0), ?_⟩
     cases h; exact ⟨rfl, rfl⟩
    ·rw [if_neg q] at h; cases h
  ·rw [if_neg q] at h; cases h
theorem cc_u5 (k : Nat) (l_ : List (T2).T) (web_ : T5.T) (id_ : Int) (h : (f_u5 k l_ web_ id_).isSome = true) : CC Tryz.prog 16 (args_u5 l_ web_ id_) (bin_u5 l_ web_ id_) (res_u5 (v_u5 k l_ web_ id_)) (bo_u5 l_ web_ id_ (v_u5 k l_ web_ id_)) := by
 cases e : f_u5 k l_ web_ id_ with
 | none => rw [e] at h; cases h
 | some r => rw [show v_u5 k l_ web_ id_ = r by simp [v_u5, e]]; exact of_u5 k l_ web_ id_ r e

end
end Go.AM
namespace Go.AM
open Go Go.Proofs Go.IntKind
set_option linter.unusedVariables false
noncomputable section
abbrev R_u80 : Type := T1.T × Int
def res_u80 (r : R_u80) : AV := .tup [.agg (rvs (enc T1 r.1)), .r (.v (.int .i64 r.2))]
def bo_u80 (l_ : List (T2).T) (web_ : T6.T) (id_ : Int) (r : R_u80) : List (Nat × Blk) := []
def args_u80 (l_ : List (T2).T) (web_ : T6.T) (id_ : Int) : List AV := [.r (.ro T2 l_), .agg (rvs (enc T6 web_)), .r (.v (.int .i64 id_))]
def bin_u80 (l_ : List (T2).T) (web_ : T6.T) (id_ : Int) : List Blk := []
def w_u80 (g : List (T2).T → T6.T → Int → Option R_u80) (l_ : List (T2).T) (web_ : T6.T) (id_ : Int) : R_u80 := (g l_ web_ id_).getD ((T1).dflt, 0)
def f_u80 : Nat → List (T2).T → T6.T → Int → Option R_u80
 | 0, _, _, _ => none
 | k + 1, l_, web_, id_ =>
 if ((f_u87 k l_ web_ id_).isSome = true) then
 bif ((v_u87 k l_ web_ id_).2.2 != (0 : Int)) then
 some (((0, (0, (false, []))), (v_u87 k l_ web_ id_).2.2))
 else
 bif (id_ == (0 : Int)) then
 bif (decide ((v_u87 k l_ web_ id_).2.1 > (0 : Int))) then
 some (((0, (web_.1, (false, [(0, (v_u87 k l_ web_ id_).2.1, false)]))), 0))
 else
 some (((0, (web_.1, (false, []))), 0))
 else
 if ((f_u82 k l_ (↑l_.length : Int) id_).isSome = true) ∧ ((0 : Int) ≤ v_u82 k l_ (↑l_.length : Int) id_) ∧ (v_u82 k l_ (↑l_.length : Int) id_ < (↑l_.length : Int)) then
 if ((f_u80 k l_ web_ (l_.getD (Int.toNat (v_u82 k l_ (↑l_.length : Int) id_)) T2.dflt).2.1).isSome = true) then
 bif ((w_u80 (f_u80 k) l_ web_ (l_.getD (Int.toNat (v_u82 k l_ (↑l_.length : Int) id_)) T2.dflt).2.1).2 != (0 : Int)) then
 some (((0, (0, (false, []))), (w_u80 (f_u80 k) l_ web_ (l_.getD (Int.toNat (v_u82 k l_ (↑l_.length : Int) id_)) T2.dflt).2.1).2))
 else
 bif (w_u80 (f_u80 k) l_ web_ (l_.getD (Int.toNat (v_u82 k l_ (↑l_.length : Int) id_)) T2.dflt).2.1).1.2.2.1 then
 if ((f_u69 k (l_.getD (Int.toNat (v_u82 k l_ (↑l_.length : Int) id_)) T2.dflt).2.2.2.2.2 (w_u80 (f_u80 k) l_ web_ (l_.getD (Int.toNat (v_u82 k l_ (↑l_.length : Int) id_)) T2.dflt).2.1).1.2.2.2).isSome = true) then
 bif ((v_u69 k (l_.getD (Int.toNat (v_u82 k l_ (↑l_.length : Int) id_)) T2.dflt).2.2.2.2.2 (w_u80 (f_u80 k) l_ web_ (l_.getD (Int.toNat (v_u82 k l_ (↑l_.length : Int) id_)) T2.dflt).2.1).1.2.2.2).2 != (0 : Int)) then
 some (((0, (0, (false, []))), (v_u69 k (l_.getD (Int.toNat (v_u82 k l_ (↑l_.length : Int) id_)) T2.dflt).2.2.2.2.2 (w_u80 (f_u80 k) l_ web_ (l_.getD (Int.toNat (v_u82 k l_ (↑l_.length : Int) id_)) T2.dflt).2.1).1.2.2.2).2))
 else
 some (((i64.wrap (i64.wrap (i64.wrap ((w_u80 (f_u80 k) l_ web_ (l_.getD (Int.toNat (v_u82 k l_ (↑l_.length : Int) id_)) T2.dflt).2.1).1.1 + (w_u80 (f_u80 k) l_ web_ (l_.getD (Int.toNat (v_u82 k l_ (↑l_.length : Int) id_)) T2.dflt).2.1).1.2.1) - (l_.getD (Int.toNat (v_u82 k l_ (↑l_.length : Int) id_)) T2.dflt).2.2.1) - (l_.getD (Int.toNat (v_u82 k l_ (↑l_.length : Int) id_)) T2.dflt).2.2.2.1), ((l_.getD (Int.toNat (v_u82 k l_ (↑l_.length : Int) id_)) T2.dflt).2.2.2.1, (! (l_.getD (Int.toNat (v_u82 k l_ (↑l_.length : Int) id_)) T2.dflt).2.2.2.2.1, (v_u69 k (l_.getD (Int.toNat (v_u82 k l_ (↑l_.length : Int) id_)) T2.dflt).2.2.2.2.2 (w_u80 (f_u80 k) l_ web_ (l_.getD (Int.toNat (v_u82 k l_ (↑l_.length : Int) id_)) T2.dflt).2.1).1.2.2.2).1))), 0))
 else none
 else
 if ((f_u69 k (l_.getD (Int.toNat (v_u82 k l_ (↑l_.length : Int) id_)) T2.dflt).2.2.2.2.2 (w_u80 (f_u80 k) l_ web_ (l_.getD (Int.toNat (v_u82 k l_ (↑l_.length : Int) id_)) T2.dflt).2.1).1.2.2.2).isSome = true) then
 bif ((v_u69 k (l_.getD (Int.toNat (v_u82 k l_ (↑l_.length : Int) id_)) T2.dflt).2.2.2.2.2 (w_u80 (f_u80 k) l_ web_ (l_.getD (Int.toNat (v_u82 k l_ (↑l_.length : Int) id_)) T2.dflt).2.1).1.2.2.2).2 != (0 : Int)) then
 some (((0, (0, (false, []))), (v_u69 k (l_.getD (Int.toNat (v_u82 k l_ (↑l_.length : Int) id_)) T2.dflt).2.2.2.2.2 (w_u80 (f_u80 k) l_ web_ (l_.getD (Int.toNat (v_u82 k l_ (↑l_.length : Int) id_)) T2.dflt).2.1).1.2.2.2).2))
 else
 some (((i64.wrap ((w_u80 (f_u80 k) l_ web_ (l_.getD (Int.toNat (v_u82 k l_ (↑l_.length : Int) id_)) T2.dflt).2.1).1.1 + (l_.getD (Int.toNat (v_u82 k l_ (↑l_.length : Int) id_)) T2.dflt).2.2.1), ((l_.getD (Int.toNat (v_u82 k l_ (↑l_.length : Int) id_)) T2.dflt).2.2.2.1, ((l_.getD (Int.toNat (v_u82 k l_ (↑l_.length : Int) id_)) T2.dflt).2.2.2.2.1, (v_u69 k (l_.getD (Int.toNat (v_u82 k l_ (↑l_.length : Int) id_)) T2.dflt).2.2.2.2.2 (w_u80 (f_u80 k) l_ web_ (l_.getD (Int.toNat (v_u82 k l_ (↑l_.length : Int) id_)) T2.dflt).2.1).1.2.2.2).1))), 0))
 else none
 else none
 else none
 else none
def v_u80 (k : Nat) (l_ : List (T2).T) (web_ : T6.T) (id_ : Int) : R_u80 := (f_u80 k l_ web_ id_).getD ((T1).dflt, 0)
def K_u80 (k : Nat) : Calld := ⟨fun g xs => match g with
 | 35 => match xs with
  | [_, _, _] => some [false, false, false]
  | _ => none
 | 22 => match xs with
  | [_, _, _] => some [false, false, false]
  | _ => none
 | 38 => match xs with
  | [_, _] => some [false, false]
  | _ => none
 | 17 => match xs with
  | [_, _, _] => some [false, false, false]
  | _ => none
 | _ => none, fun g xs bs => match g with
 | 35 => match xs, bs with
  | [.r (.ro tl__ ql_), .r (.v (.int .i64 n_)), .r (.v (.int .i64 id_))], [] => (castL tl__ T2 ql_).bind fun l_ => some (.one (res_u82 (v_u82 k l_ n_ id_), bo_u82 l_ n_ id_ (v_u82 k l_ n_ id_)))
  | _, _ => none
 | 22 => match xs, bs with
  | [.r (.ro tl__ ql_), .agg qweb_, .r (.v (.int .i64 id_))], [] => (castL tl__ T2 ql_).bind fun l_ => (decS [] T6 qweb_).bind fun web_ => some (.one (res_u87 (v_u87 k l_ web_ id_), bo_u87 l_ web_ id_ (v_u87 k l_ web_ id_)))
  | _, _ => none
 | 38 => match xs, bs with
  | [.r (.ro tinner__ qinner_), .r (.ro touter__ qouter_)], [] => (castL tinner__ T0 qinner_).bind fun inner_ => (castL touter__ T0 qouter_).bind fun outer_ => some (.one (res_u69 (v_u69 k inner_ outer_), bo_u69 inner_ outer_ (v_u69 k inner_ outer_)))
  | _, _ => none
 | 17 => match xs, bs with
  | [.r (.ro tl__ ql_), .agg qweb_, .r (.v (.int .i64 id_))], [] => (castL tl__ T2 ql_).bind fun l_ => (decS [] T6 qweb_).bind fun web_ => some (.one (res_u80 (v_u80 k l_ web_ id_), bo_u80 l_ web_ id_ (v_u80 k l_ web_ id_)))
  | _, _ => none
 | _ => none⟩
theorem of_u80 : ∀ (k : Nat) (l_ : List (T2).T) (web_ : T6.T) (id_ : Int) (r : R_u80), f_u80 k l_ web_ id_ = some r → CC Tryz.prog 17 (args_u80 l_ web_ id_) (bin_u80 l_ web_ id_) (res_u80 r) (bo_u80 l_ web_ id_ r)
 | 0, l_, web_, id_, r, h => by simp [f_u80] at h
 | k + 1, l_, web_, id_, r, h => by
  have ih : ∀ (l_ : List (T2).T) (web_ : T6.T) (id_ : Int), (f_u80 k l_ web_ id_).isSome = true → CC Tryz.prog 17 (args_u80 l_ web_ id_) (bin_u80 l_ web_ id_) (res_u80 (v_u80 k l_ web_ id_)) (bo_u80 l_ web_ id_ (v_u80 k l_ web_ id_)) := fun l_ web_ id_ h => by
   cases e : f_u80 k l_ web_ id_ with
   | none => rw [e] at h; cases h
   | some r => rw [show v_u80 k l_ web_ id_ = r by simp [v_u80, e]]; exact of_u80 k l_ web_ id_ r e
  refine CC.of (fn := Tryz.f17) (by kernel_rfl) (by kernel_rfl) (by kernel_rfl) (by kernel_rfl) ?_
  rw [f_u80] at h
  refine Ev.tree hm (R := Rt) (K := (K_u80 k)) (l := []) (C := []) (E := [.frz 6 true T1, .autoB [6, 7] true []]) (n := 1000) (T := .need [CC Tryz.prog 22 (args_u87 l_ web_ id_) (bin_u87 l_ web_ id_) (res_u87 (v_u87 k l_ web_ id_)) (bo_u87 l_ web_ id_ (v_u87 k l_ web_ id_))] (.test (((v_u87 k l_ web_ id_).2.2 != (0 : Int))) (.leaf (res_u80 (((0, (0, (false, []))), (v_u87 k l_ web_ id_).2.2))) (bo_u80 l_ web_ id_ (((0, (0, (false, []))), (v_u87 k l_ web_ id_).2.2)))) (.test ((id_ == (0 : Int))) (.test ((decide ((v_u87 k l_ web_ id_).2.1 > (0 : Int)))) (.leaf (res_u80 (((0, (web_.1, (false, [(0, (v_u87 k l_ web_ id_).2.1, false)]))), 0))) (bo_u80 l_ web_ id_ (((0, (web_.1, (false, [(0, (v_u87 k l_ web_ id_).2.1, false)]))), 0)))) (.leaf (res_u80 (((0, (web_.1, (false, []))), 0))) (bo_u80 l_ web_ id_ (((0, (web_.1, (false, []))), 0))))) (.need [CC Tryz.prog 35 (args_u82 l_ (↑l_.length : Int) id_) (bin_u82 l_ (↑l_.length : Int) id_) (res_u82 (v_u82 k l_ (↑l_.length : Int) id_)) (bo_u82 l_ (↑l_.length : Int) id_ (v_u82 k l_ (↑l_.length : Int) id_)), (0 : Int) ≤ v_u82 k l_ (↑l_.length : Int) id_, v_u82 k l_ (↑l_.length : Int) id_ < (↑l_.length : Int)] (.need [CC Tryz.prog 17 (args_u80 l_ web_ (l_.getD (Int.toNat (v_u82 k l_ (↑l_.length : Int) id_)) T2.dflt).2.1) (bin_u80 l_ web_ (l_.getD (Int.toNat (v_u82 k l_ (↑l_.length : Int) id_)) T2.dflt).2.1) (res_u80 (v_u80 k l_ web_ (l_.getD (Int.toNat (v_u82 k l_ (↑l_.length : Int) id_)) T2.dflt).2.1)) (bo_u80 l_ web_ (l_.getD (Int.toNat (v_u82 k l_ (↑l_.length : Int) id_)) T2.dflt).2.1 (v_u80 k l_ web_ (l_.getD (Int.toNat (v_u82 k l_ (↑l_.length : Int) id_)) T2.dflt).2.1))] (.test (((v_u80 k l_ web_ (l_.getD (Int.toNat (v_u82 k l_ (↑l_.length : Int) id_)) T2.dflt).2.1).2 != (0 : Int))) (.leaf (res_u80 (((0, (0, (false, []))), (v_u80 k l_ web_ (l_.getD (Int.toNat (v_u82 k l_ (↑l_.length : Int) id_)) T2.dflt).2.1).2))) (bo_u80 l_ web_ id_ (((0, (0, (false, []))), (v_u80 k l_ web_ (l_.getD (Int.toNat (v_u82 k l_ (↑l_.length : Int) id_)) T2.dflt).2.1).2)))) (.test ((v_u80 k l_ web_ (l_.getD (Int.toNat (v_u82 k l_ (↑l_.length : Int) id_)) T2.dflt).2.1).1.2.2.1) (.need [CC Tryz.prog 38 (args_u69 (l_.getD (Int.toNat (v_u82 k l_ (↑l_.length : Int) id_)) T2.dflt).2.2.2.2.2 (v_u80 k l_ web_ (l_.getD (Int.toNat (v_u82 k l_ (↑l_.length : Int) id_)) T2.dflt).2.1).1.2.2.2) (bin_u69 (l_.getD (Int.toNat (v_u82 k l_ (↑l_.length : Int) id_)) T2.dflt).2.2.2.2.2 (v_u80 k l_ web_ (l_.getD (Int.toNat (v_u82 k l_ (↑l_.length : Int) id_)) T2.dflt).2.1).1.2.2.2) (res_u69 (v_u69 k (l_.getD (Int.toNat (v_u82 k l_ (↑l_.length : Int) id_)) T2.dflt).2.2.2.2.2 (v_u80 k l_ web_ (l_.getD (Int.toNat (v_u82 k l_ (↑l_.length : Int) id_)) T2.dflt).2.1).1.2.2.2)) (bo_u69 (l_.getD (Int.toNat (v_u82 k l_ (↑l_.length : Int) id_)) T2.dflt).2.2.2.2.2 (v_u80 k l_ web_ (l_.getD (Int.toNat (v_u82 k l_ (↑l_.length : Int) id_)) T2.dflt).2.1).1.2.2.2 (v_u69 k (l_.getD (Int.toNat (v_u82 k l_ (↑l_.length : Int) id_)) T2.dflt).2.2.2.2.2 (v_u80 k l_ web_ (l_.getD (Int.toNat (v_u82 k l_ (↑l_.length : Int) id_)) T2.dflt).2.1).1.2.2.2))] (.test (((v_u69 k (l_.getD (Int.toNat (v_u82 k l_ (↑l_.length : Int) id_)) T2.dflt).2.2.2.2.2 (v_u80 k l_ web_ (l_.getD (Int.toNat (v_u82 k l_ (↑l_.length : Int) id_)) T2.dflt).2.1).1.2.2.2).2 != (0 : Int))) (.leaf (res_u80 (((0, (0, (false, []))), (v_u69 k (l_.getD (Int.toNat (v_u82 k l_ (↑l_.length : Int) id_)) T2.dflt).2.2.2.2.2 (v_u80 k l_ web_ (l_.getD (Int.toNat (v_u82 k l_ (↑l_.length : Int) id_)) T2.dflt).2.1).1.2.2.2).2))) (bo_u80 l_ web_ id_ (((0, (0, (false, []))), (v_u69 k (l_.getD (Int.toNat (v_u82 k l_ (↑l_.length : Int) id_)) T2.dflt).2.2.2.2.2 (v_u80 k l_ web_ (l_.getD (Int.toNat (v_u82 k l_ (↑l_.length : Int) id_)) T2.dflt).2.1).1.2.2.2).2)))) (.leaf (res_u80 (((i64.wrap (i64.wrap (i64.wrap ((v_u80 k l_ web_ (l_.getD (Int.toNat (v_u82 k l_ (↑l_.length : Int) id_)) T2.dflt).2.1).1.1 + (v_u80 k l_ web_ (l_.getD (Int.toNat (v_u82 k l_ (↑l_.length : Int) id_)) T2.dflt).2.1).1.2.1) - (l_.getD (Int.toNat (v_u82 k l_ (↑l_.length : Int) id_)) T2.dflt).2.2.1) - (l_.getD (Int.toNat (v_u82 k l_ (↑l_.length : Int) id_)) T2.dflt).2.2.2.1), ((l_.getD (Int.toNat (v_u82 k l_ (↑l_.length : Int) id_)) T2.dflt).2.2.2.1, (! (l_.getD (Int.toNat (v_u82 k l_ (↑l_.length : Int) id_)) T2.dflt).2.2.2.2.1, (v_u69 k (l_.getD (Int.toNat (v_u82 k l_ (↑l_.length : Int) id_)) T2.dflt).2.2.2.2.2 (v_u80 k l_ web_ (l_.getD (Int.toNat (v_u82 k l_ (↑l_.length : Int) id_)) T2.dflt).2.1).1.2.2.2).1))), 0))) (bo_u80 l_ web_ id_ (((i64.wrap (i64.wrap (i64.wrap ((v_u80 k l_ web_ (l_.getD (Int.toNat (v_u82 k l_ (↑l_.length : Int) id_)) T2.dflt).2.1).1.1 + (v_u80 k l_ web_ (l_.getD (Int.toNat (v_u82 k l_ (↑l_.length : Int) id_)) T2.dflt).2.1).1.2.1) - (l_.getD (Int.toNat (v_u82 k l_ (↑l_.length : Int) id_)) T2.dflt).2.2.1) - (l_.getD (Int.toNat (v_u82 k l_ (↑l_.length : Int) id_)) T2.dflt).2.2.2.1), ((l_.getD (Int.toNat (v_u82 k l_ (↑l_.length : Int) id_)) T2.dflt).2.2.2.1, (! (l_.getD (Int.toNat (v_u82 k l_ (↑l_.length : Int) id_)) T2.dflt).2.2.2.2.1, (v_u69 k (l_.getD (Int.toNat (v_u82 k l_ (↑l_.length : Int) id_)) T2.dflt).2.2.2.2.2 (v_u80 k l_ web_ (l_.getD (Int.toNat (v_u82 k l_ (↑l_.length : Int) id_)) T2.dflt).2.1).1.2.2.2).1))), 0)))))) (.need [CC Tryz.prog 38 (args_u69 (l_.getD (Int.toNat (v_u82 k l_ (↑l_.length : Int) id_)) T2.dflt).2.2.2.2.2 (v_u80 k l_ web_ (l_.getD (Int.toNat (v_u82 k l_ (↑l_.length : Int) id_)) T2.dflt).2.1).1.2.2.2) (bin_u69 (l_.getD (Int.toNat (v_u82 k l_ (↑l_.length : Int) id_)) T2.dflt).2.2.2.2.2 (v_u80 k l_ web_ (l_.getD (Int.toNat (v_u82 k l_ (↑l_.length : Int) id_)) T2.dflt).2.1).1.2.2.2) (res_u69 (v_u69 k (l_.getD (Int.toNat (v_u82 k l_ (↑l_.length : Int) id_)) T2.dflt).2.2.2.2.2 (v_u80 k l_ web_ (l_.getD (Int.toNat (v_u82 k l_ (↑l_.length : Int) id_)) T2.dflt).2.1).1.2.2.2)) (bo_u69 (l_.getD (Int.toNat (v_u82 k l_ (↑l_.length : Int) id_)) T2.dflt).2.2.2.2.2 (v_u80 k l_ web_ (l_.getD (Int.toNat (v_u82 k l_ (↑l_.length : Int) id_)) T2.dflt).2.1).1.2.2.2 (v_u69 k (l_.getD (Int.toNat (v_u82 k l_ (↑l_.length : Int) id_)) T2.dflt).2.2.2.2.2 (v_u80 k l_ web_ (l_.getD (Int.toNat (v_u82 k l_ (↑l_.length : Int) id_)) T2.dflt).2.1).1.2.2.2))] (.test (((v_u69 k (l_.getD (Int.toNat (v_u82 k l_ (↑l_.length : Int) id_)) T2.dflt).2.2.2.2.2 (v_u80 k l_ web_ (l_.getD (Int.toNat (v_u82 k l_ (↑l_.length : Int) id_)) T2.dflt).2.1).1.2.2.2).2 != (0 : Int))) (.leaf (res_u80 (((0, (0, (false, []))), (v_u69 k (l_.getD (Int.toNat (v_u82 k l_ (↑l_.length : Int) id_)) T2.dflt).2.2.2.2.2 (v_u80 k l_ web_ (l_.getD (Int.toNat (v_u82 k l_ (↑l_.length : Int) id_)) T2.dflt).2.1).1.2.2.2).2))) (bo_u80 l_ web_ id_ (((0, (0, (false, []))), (v_u69 k (l_.getD (Int.toNat (v_u82 k l_ (↑l_.length : Int) id_)) T2.dflt).2.2.2.2.2 (v_u80 k l_ web_ (l_.getD (Int.toNat (v_u82 k l_ (↑l_.length : Int) id_)) T2.dflt).2.1).1.2.2.2).2)))) (.leaf (res_u80 (((i64.wrap ((v_u80 k l_ web_ (l_.getD (Int.toNat (v_u82 k l_ (↑l_.length : Int) id_)) T2.dflt).2.1).1.1 + (l_.getD (Int.toNat (v_u82 k l_ (↑l_.length : Int) id_)) T2.dflt).2.2.1), ((l_.getD (Int.toNat (v_u82 k l_ (↑l_.length : Int) id_)) T2.dflt).2.2.2.1, ((l_.getD (Int.toNat (v_u82 k l_ (↑l_.length : Int) id_)) T2.dflt).2.2.2.2.1, (v_u69 k (l_.getD (Int.toNat (v_u82 k l_ (↑l_.length : Int) id_)) T2.dflt).2.2.2.2.2 (v_u80 k l_ web_ (l_.getD (Int.toNat (v_u82 k l_ (↑l_.length : Int) id_)) T2.dflt).2.1).1.2.2.2).1))), 0))) (bo_u80 l_ web_ id_ (((i64.wrap ((v_u80 k l_ web_ (l_.getD (Int.toNat (v_u82 k l_ (↑l_.length : Int) id_)) T2.dflt).2.1).1.1 + (l_.getD (Int.toNat (v_u82 k l_ (↑l_.length : Int) id_)) T2.dflt).2.2.1), ((l_.getD (Int.toNat (v_u82 k l_ (↑l_.length : Int) id_)) T2.dflt).2.2.2.1, ((l_.getD (Int.toNat (v_u82 k l_ (↑l_.length : Int) id_)) T2.dflt).2.2.2.2.1, (v_u69 k (l_.getD (Int.toNat (v_u82 k l_ (↑l_.length : Int) id_)) T2.dflt).2.2.2.2.2 (v_u80 k l_ web_ (l_.getD (Int.toNat (v_u82 k l_ (↑l_.length : Int) id_)) T2.dflt).2.1).1.2.2.2).1))), 0))))))))))))) (by kernel_rfl) ?_
  by_cases q : ((f_u87 k l_ web_ id_).isSome = true)
  ·rw [if_pos q] at h
   refine ⟨(conjC (cc_u87 k l_ web_ id_ q) conj0), ?_⟩
   refine ⟨fun c => ?_, fun c => ?_⟩
   ·rw [cond_t (show (((v_u87 k l_ web_ id_).2.2 != (0 : Int))) = true from c)] at h
    cases h; exact ⟨rfl, rfl⟩
   ·rw [cond_f (show (((v_u87 k l_ web_ id_).2.2 != (0 : Int))) = false from c)] at h
    refine ⟨fun c => ?_, fun c => ?_⟩
    ·rw [cond_t (show ((id_ == (0 : Int))) = true from c)] at h
     refine ⟨fun c => ?_, fun c => ?_⟩
     ·rw [cond_t (show ((decide ((v_u87 k l_ web_ id_).2.1 > (0 : Int)))) = true from c)] at h
      cases h; exact ⟨rfl, rfl⟩
     ·rw [cond_f (show ((decide ((v_u87 k l_ web_ id_).2.1 > (0 : Int)))) = false from c)] at h
      cases h; exact ⟨rfl, rfl⟩
    ·rw [cond_f (show ((id_ == (0 : Int))) = false from c)] at h
     by_cases q : ((f_u82 k l_ (↑l_.length : Int) id_).isSome = true) ∧ ((0 : Int) ≤ v_u82 k l_ (↑l_.length : Int) id_) ∧ (v_u82 k l_ (↑l_.length : Int) id_ < (↑l_.length : Int))
     ·rw [if_pos q] at h
      refine ⟨(conjC (cc_u82 k l_ (↑l_.length : Int) id_ q.1) (conjC q.2.1 (conjC q.2.2 conj0))), ?_⟩
      by_cases q : ((f_u80 k l_ web_ (l_.getD (Int.toNat (v_u82 k l_ (↑l_.length : Int) id_)) T2.dflt).2.1).isSome = true)
      ·rw [if_pos q] at h
       refine ⟨(conjC (ih l_ web_ (l_.getD (Int.toNat (v_u82 k l_ (↑l_.length : Int) id_)) T2.dflt).2.1 q) conj0), ?_⟩
       refine ⟨fun c => ?_, fun c => ?_⟩
       ·rw [cond_t (show (((w_u80 (f_u80 k) l_ web_ (l_.getD (Int.toNat (v_u82 k l_ (↑l_.length : Int) id_)) T2.dflt).2.1).2 != (0 : Int))) = true from c)] at h
        cases h; exact ⟨rfl, rfl⟩
       ·rw [cond_f (show (((w_u80 (f_u80 k) l_ web_ (l_.getD (Int.toNat (v_u82 k l_ (↑l_.length : Int) id_)) T2.dflt).2.1).2 != (0 : Int))) = false from c)] at h
        refine ⟨fun c => ?_, fun c => ?_⟩
        ·rw [cond_t (show ((w_u80 (f_u80 k) l_ web_ (l_.getD (Int.toNat (v_u82 k l_ (↑l_.length : Int) id_)) T2.dflt).2.1).1.2.2.1) = true from c)] at h
         by_cases q : ((f_u69 k (l_.getD (Int.toNat (v_u82 k l_ (↑l_.length : Int) id_)) T2.dflt).2.2.2.2.2 (w_u80 (f_u80 k) l_ web_ (l_.getD (Int.toNat (v_u82 k l_ (↑l_.length : Int) id_)) T2.dflt).2.1).1.2.2.2).isSome = true)
         ·rw [if_pos q] at h
          refine ⟨(conjC (cc_u69 k (l_.getD (Int.toNat (v_u82 k l_ (↑l_.length : Int) id_)) T2.dflt).2.2.2.2.2 (v_u80 k l_ web_ (l_.getD (Int.toNat (v_u82 k l_ (↑l_.length : Int) id_)) T2.dflt).2.1).1.2.2.2 q) conj0), ?_⟩
          refine ⟨fun c => ?_, fun c => ?_⟩
          ·rw [cond_t (show (((v_u69 k (l_.getD (Int.toNat (v_u82 k l_ (↑l_.length : Int) id_)) T2.dflt).2.2.2.2.2 (w_u80 (f_u80 k) l_ web_ (l_.getD (Int.toNat (v_u82 k l_ (↑l_.length : Int) id_)) T2.dflt).2.1).1.2.2.2).2 != (0 : Int))) = true from c)] at h
           cases h; exact ⟨rfl, rfl⟩
          ·rw [cond_f (show (((v_u69 k (l_.getD (Int.toNat (v_u82 k l_ (↑l_.length : Int) id_)) T2.dflt).2.2.2.2.2 (w_u80 (f_u80 k) l_ web_ (l_.getD (Int.toNat (v_u82 k l_ (↑l_.length : Int) id_)) T2.dflt).2.1).1.2.2.2).2 != (0 : Int))) = false from c)] at h
           cases h; exact ⟨rfl, rfl⟩
         ·rw [if_neg q] at h; cases h
        ·rw [cond_f (show ((w_u80 (f_u80 k) l_ web_ (l_.getD (Int.toNat (v_u82 k l_ (↑l_.length : Int) id_)) T2.dflt).2.1).1.2.2.1) = false from c)] at h
         by_cases q : ((f_u69 k (l_.getD (Int.toNat (v_u82 k l_ (↑l_.length : Int) id_)) T2.dflt).2.2.2.2.2 (w_u80 (f_u80 k) l_ web_ (l_.getD (Int.toNat (v_u82 k l_ (↑l_.length : Int) id_)) T2.dflt).2.1).1.2.2.2).isSome = true)
         ·rw [if_pos q] at h
          refine ⟨(conjC (cc_u69 k (l_.getD (Int.toNat (v_u82 k l_ (↑l_.length : Int) id_)) T2.dflt).2.2.2.2.2 (v_u80 k l_ web_ (l_.getD (Int.toNat (v_u82 k l_ (↑l_.length : Int) id_)) T2.dflt).2.1).1.2.2.2 q) conj0), ?_⟩
          refine ⟨fun c => ?_, fun c => ?_⟩
          ·rw [cond_t (show (((v_u69 k (l_.getD (Int.toNat (v_u82 k l_ (↑l_.length : Int) id_)) T2.dflt).2.2.2.2.2 (w_u80 (f_u80 k) l_ web_ (l_.getD (Int.toNat (v_u82 k l_ (↑l_.length : Int) id_)) T2.dflt).2.1).1.2.2.2).2 != (0 : Int))) = true from c)] at h
           cases h; exact ⟨rfl, rfl⟩
          ·rw [cond_f (show (((v_u69 k (l_.getD (Int.toNat (v_u82 k l_ (↑l_.length : Int) id_)) T2.dflt).2.2.2.2.2 (w_u80 (f_u80 k) l_ web_ (l_.getD (Int.toNat (v_u82 k l_ (↑l_.length : Int) id_)) T2.dflt).2.1).1.2.2.2).2 != (0 : Int))) = false from c)] at h
           cases h; exact ⟨rfl, rfl⟩
         ·rw [if_neg q] at h; cases h
      ·rw [if_neg q] at h; cases h
     ·rw [if_neg q] at h; cases h
  ·rw [if_neg q] at h; cases h
theorem cc_u80 (k : Nat) (l_ : List (T2).T) (web_ : T6.T) (id_ : Int) (h : (f_u80 k l_ web_ id_).isSome = true) : CC Tryz.prog 17 (args_u80 l_ web_ id_) (bin_u80 l_ web_ id_) (res_u80 (v_u80 k l_ web_ id_)) (bo_u80 l_ web_ id_ (v_u80 k l_ web_ id_)) := by
 cases e : f_u80 k l_ web_ id_ with
 | none => rw [e] at h; cases h
 | some r => rw [show v_u80 k l_ web_ id_ = r by simp [v_u80, e]]; exact of_u80 k l_ web_ id_ r e

end
end Go.AM
namespace Go.AM
open Go Go.Proofs Go.IntKind
set_option linter.unusedVariables false
noncomputable section
abbrev R_u19 : Type := Int
def res_u19 (r : R_u19) : AV := .fn ((Fn.func 64)) [] [.ptr 2 0 0, .ptr 3 0 0]
def bo_u19 (g_0 : Int) (g_1 : Int) (g_2 : List (T2).T) (g_3 : List ((I).T × (I).T)) (id_ : Int) (r : R_u19) : List (Nat × Blk) := [(0, .var 73 [.r (.v (.int .i64 g_0)), .r (.v (.int .i64 g_1)), .r (.ro T2 g_2), .own 1 0]), (0, .map false I I g_3), (0, .var 66 [.ptr 0 0 0]), (0, .var 3 [.r (.v (.int .i64 r))])]
def args_u19 (g_0 : Int) (g_1 : Int) (g_2 : List (T2).T) (g_3 : List ((I).T × (I).T)) (id_ : Int) : List AV := [.ptr 0 0 0, .r (.v (.int .i64 id_))]
def bin_u19 (g_0 : Int) (g_1 : Int) (g_2 : List (T2).T) (g_3 : List ((I).T × (I).T)) (id_ : Int) : List Blk := [.var 73 [.r (.v (.int .i64 g_0)), .r (.v (.int .i64 g_1)), .r (.ro T2 g_2), .own 1 0], .map false I I g_3]
def f_u19 (k : Nat) (g_0 : Int) (g_1 : Int) (g_2 : List (T2).T) (g_3 : List ((I).T × (I).T)) (id_ : Int) : Option R_u19 :=
 some id_
def v_u19 (k : Nat) (g_0 : Int) (g_1 : Int) (g_2 : List (T2).T) (g_3 : List ((I).T × (I).T)) (id_ : Int) : R_u19 := (f_u19 k g_0 g_1 g_2 g_3 id_).getD 0
def K_u19 (k : Nat) : Calld := ⟨fun g xs => match g with
 | _ => none, fun g xs bs => match g with
 | _ => none⟩
theorem of_u19 (k : Nat) (g_0 : Int) (g_1 : Int) (g_2 : List (T2).T) (g_3 : List ((I).T × (I).T)) (id_ : Int) (r : R_u19) (h : f_u19 k g_0 g_1 g_2 g_3 id_ = some r) : CC Tryz.prog 44 (args_u19 g_0 g_1 g_2 g_3 id_) (bin_u19 g_0 g_1 g_2 g_3 id_) (res_u19 r) (bo_u19 g_0 g_1 g_2 g_3 id_ r) := by
 refine CC.of (fn := Tryz.f44) (by kernel_rfl) (by kernel_rfl) (by kernel_rfl) (by kernel_rfl) ?_
 unfold f_u19 at h
 refine Ev.tree hm (R := Rt) (K := (K_u19 k)) (l := []) (C := []) (E := [.autoB [4] true []]) (n := 1000) (T := .leaf (res_u19 id_) (bo_u19 g_0 g_1 g_2 g_3 id_ id_)) (by kernel_rfl) ?_
 cases h; exact ⟨rfl, rfl⟩
theorem cc_u19 (k : Nat) (g_0 : Int) (g_1 : Int) (g_2 : List (T2).T) (g_3 : List ((I).T × (I).T)) (id_ : Int) (h : (f_u19 k g_0 g_1 g_2 g_3 id_).isSome = true) : CC Tryz.prog 44 (args_u19 g_0 g_1 g_2 g_3 id_) (bin_u19 g_0 g_1 g_2 g_3 id_) (res_u19 (v_u19 k g_0 g_1 g_2 g_3 id_)) (bo_u19 g_0 g_1 g_2 g_3 id_ (v_u19 k g_0 g_1 g_2 g_3 id_)) := by
 cases e : f_u19 k g_0 g_1 g_2 g_3 id_ with
 | none => rw [e] at h; cases h
 | some r => rw [show v_u19 k g_0 g_1 g_2 g_3 id_ = r by simp [v_u19, e]]; exact of_u19 k g_0 g_1 g_2 g_3 id_ r e

end
end Go.AM
namespace Go.AM
open Go Go.Proofs Go.IntKind
set_option linter.unusedVariables false
noncomputable section
abbrev R_u1 : Type := Int
def res_u1 (r : R_u1) : AV := .r (.v (.bool true))
def bo_u1 (s800 : Int) (s801 : Int) (s802 : List (T2).T) (s803 : List ((I).T × (I).T)) (s120 : Int) (x0 : T2.T) (r : R_u1) : List (Nat × Blk) := [(0, .loop .ready none (rcAt Tryz.f23 7 [48]) (mkS 52 [(8, .ptr 1 0 0), (12, .ptr 4 0 0)])), (0, .var 66 [.ptr 2 0 0]), (0, .var 73 [.r (.v (.int .i64 s800)), .r (.v (.int .i64 s801)), .r (.ro T2 s802), .own 3 0]), (0, .map false I I s803), (0, .var 3 [.r (.v (.int .i64 r))])]
def args_u1 (s800 : Int) (s801 : Int) (s802 : List (T2).T) (s803 : List ((I).T × (I).T)) (s120 : Int) (x0 : T2.T) : List AV := [.agg (rvs (enc T2 x0))]
def bin_u1 (s800 : Int) (s801 : Int) (s802 : List (T2).T) (s803 : List ((I).T × (I).T)) (s120 : Int) (x0 : T2.T) : List Blk := [.loop .ready none (rcAt Tryz.f23 7 [48]) (mkS 52 [(8, .ptr 1 0 0), (12, .ptr 4 0 0)]), .var 66 [.ptr 2 0 0], .var 73 [.r (.v (.int .i64 s800)), .r (.v (.int .i64 s801)), .r (.ro T2 s802), .own 3 0], .map false I I s803, .var 3 [.r (.v (.int .i64 s120))]]
def f_u1 (k : Nat) (s800 : Int) (s801 : Int) (s802 : List (T2).T) (s803 : List ((I).T × (I).T)) (s120 : Int) (x0 : T2.T) : Option R_u1 :=
 if ((f_u27 k s800 s801 s802 s803 x0.1).isSome = true) then
 some (i64.wrap (s120 - i64.wrap ((v_u27 k s800 s801 s802 s803 x0.1).1 * (v_u27 k s800 s801 s802 s803 x0.1).2)))
 else none
def v_u1 (k : Nat) (s800 : Int) (s801 : Int) (s802 : List (T2).T) (s803 : List ((I).T × (I).T)) (s120 : Int) (x0 : T2.T) : R_u1 := (f_u1 k s800 s801 s802 s803 s120 x0).getD 0
def K_u1 (k : Nat) : Calld := ⟨fun g xs => match g with
 | 42 => match xs with
  | [.ptr _ _ _, _] => some [true, false]
  | _ => none
 | _ => none, fun g xs bs => match g with
 | 42 => match xs, bs with
  | [.ptr 0 0 0, .r (.v (.int .i64 id_))], [.var 73 [.r (.v (.int .i64 g_0)), .r (.v (.int .i64 g_1)), .r (.ro tg_2_ qg_2), .own 1 0], .map false kg_3_ tg_3_ qg_3] => (castL tg_2_ T2 qg_2).bind fun g_2 => (castM kg_3_ tg_3_ I I qg_3).bind fun g_3 => some (.one (res_u27 (v_u27 k g_0 g_1 g_2 g_3 id_), bo_u27 g_0 g_1 g_2 g_3 id_ (v_u27 k g_0 g_1 g_2 g_3 id_)))
  | _, _ => none
 | _ => none⟩
theorem of_u1 (k : Nat) (s800 : Int) (s801 : Int) (s802 : List (T2).T) (s803 : List ((I).T × (I).T)) (s120 : Int) (x0 : T2.T) (r : R_u1) (h : f_u1 k s800 s801 s802 s803 s120 x0 = some r) : YC Tryz.prog (args_u1 s800 s801 s802 s803 s120 x0) (bin_u1 s800 s801 s802 s803 s120 x0) (res_u1 r) (bo_u1 s800 s801 s802 s803 s120 x0 r) := by
 refine YC.of (by rw [show bin_u1 s800 s801 s802 s803 s120 x0 = _ from rfl]; exact List.cons_ne_nil _ _) (by kernel_rfl) ?_
 unfold f_u1 at h
 refine Ev.tree hm (R := Rt) (K := (K_u1 k)) (l := []) (C := []) (E := [.autoB [0] true []]) (n := 1000) (T := .need [CC Tryz.prog 42 (args_u27 s800 s801 s802 s803 x0.1) (bin_u27 s800 s801 s802 s803 x0.1) (res_u27 (v_u27 k s800 s801 s802 s803 x0.1)) (bo_u27 s800 s801 s802 s803 x0.1 (v_u27 k s800 s801 s802 s803 x0.1))] (.leaf (res_u1 (i64.wrap (s120 - i64.wrap ((v_u27 k s800 s801 s802 s803 x0.1).1 * (v_u27 k s800 s801 s802 s803 x0.1).2)))) (bo_u1 s800 s801 s802 s803 s120 x0 (i64.wrap (s120 - i64.wrap ((v_u27 k s800 s801 s802 s803 x0.1).1 * (v_u27 k s800 s801 s802 s803 x0.1).2)))))) (by kernel_rfl) ?_
 by_cases q : ((f_u27 k s800 s801 s802 s803 x0.1).isSome = true)
 ·rw [if_pos q] at h
  refine ⟨(conjC (cc_u27 k s800 s801 s802 s803 x0.1 q) conj0), ?_⟩
  cases h; exact ⟨rfl, rfl⟩
 ·rw [if_neg q] at h; cases h
theorem cc_u1 (k : Nat) (s800 : Int) (s801 : Int) (s802 : List (T2).T) (s803 : List ((I).T × (I).T)) (s120 : Int) (x0 : T2.T) (h : (f_u1 k s800 s801 s802 s803 s120 x0).isSome = true) : YC Tryz.prog (args_u1 s800 s801 s802 s803 s120 x0) (bin_u1 s800 s801 s802 s803 s120 x0) (res_u1 (v_u1 k s800 s801 s802 s803 s120 x0)) (bo_u1 s800 s801 s802 s803 s120 x0 (v_u1 k s800 s801 s802 s803 s120 x0)) := by
 cases e : f_u1 k s800 s801 s802 s803 s120 x0 with
 | none => rw [e] at h; cases h
 | some r => rw [show v_u1 k s800 s801 s802 s803 s120 x0 = r by simp [v_u1, e]]; exact of_u1 k s800 s801 s802 s803 s120 x0 r e

end
end Go.AM
namespace Go.AM
open Go Go.Proofs Go.IntKind
set_option linter.unusedVariables false
noncomputable section
abbrev R_u21 : Type := Int
def res_u21 (r : R_u21) : AV := .tup []
def bo_u21 (yield_800 : Int) (yield_801 : Int) (yield_802 : List (T2).T) (yield_803 : List ((I).T × (I).T)) (yield_120 : Int) (z10 : Int) (r : R_u21) : List (Nat × Blk) := [(0, .loop .ready none (rcAt Tryz.f23 7 [48]) (mkS 52 [(8, .ptr 1 0 0), (12, .ptr 4 0 0)])), (0, .var 66 [.ptr 2 0 0]), (0, .var 73 [.r (.v (.int .i64 yield_800)), .r (.v (.int .i64 yield_801)), .r (.ro T2 yield_802), .own 3 0]), (0, .map false I I yield_803), (0, .var 3 [.r (.v (.int .i64 r))]), (0, .var 66 [.ptr 2 0 0]), (0, .var 3 [.r (.v (.int .i64 z10))])]
def args_u21 (yield_800 : Int) (yield_801 : Int) (yield_802 : List (T2).T) (yield_803 : List ((I).T × (I).T)) (yield_120 : Int) (z10 : Int) : List AV := [.own 0 0, .ptr 5 0 0, .ptr 6 0 0]
def bin_u21 (yield_800 : Int) (yield_801 : Int) (yield_802 : List (T2).T) (yield_803 : List ((I).T × (I).T)) (yield_120 : Int) (z10 : Int) : List Blk := [.loop .ready none (rcAt Tryz.f23 7 [48]) (mkS 52 [(8, .ptr 1 0 0), (12, .ptr 4 0 0)]), .var 66 [.ptr 2 0 0], .var 73 [.r (.v (.int .i64 yield_800)), .r (.v (.int .i64 yield_801)), .r (.ro T2 yield_802), .own 3 0], .map false I I yield_803, .var 3 [.r (.v (.int .i64 yield_120))], .var 66 [.ptr 2 0 0], .var 3 [.r (.v (.int .i64 z10))]]
def st_u21_1 (yield_800 : Int) (yield_801 : Int) (yield_802 : List (T2).T) (yield_803 : List ((I).T × (I).T)) (yield_120 : Int) (z10 : Int) (y0 : List (T2).T) (y1 : Int) (y2 : Int) (y3 : Int) : St := ⟨mkS 26 [(0, .own 0 0), (2, .ptr 6 0 0), (9, .r (.ro T2 y0)), (10, .r (.v (.int .i64 y1))), (11, .r (.v (.int .i64 y2)))], [(0, 0, .loop .ready none (rcAt Tryz.f23 7 [48]) (mkS 52 [(8, .ptr 1 0 0), (12, .ptr 4 0 0)])), (1, 0, .var 66 [.ptr 2 0 0]), (2, 0, .var 73 [.r (.v (.int .i64 yield_800)), .r (.v (.int .i64 yield_801)), .r (.ro T2 yield_802), .own 3 0]), (3, 0, .map false I I yield_803), (4, 0, .var 3 [.r (.v (.int .i64 y3))]), (5, 0, .var 66 [.ptr 2 0 0]), (6, 0, .var 3 [.r (.v (.int .i64 z10))])]⟩
def f_u21_1 (k : Nat) (yield_800 : Int) (yield_801 : Int) (yield_802 : List (T2).T) (yield_803 : List ((I).T × (I).T)) (yield_120 : Int) (z10 : Int) : Nat → List (T2).T → Int → Int → Int → Option R_u21
 | 0, _, _, _, _ => none
 | j + 1, y0, y1, y2, y3 =>
 bif (decide (y2 < y1)) then
 if (0 ≤ y2) ∧ (y2 < (↑y0.length : Int)) then
 bif ((y0.getD y2.toNat T2.dflt).2.1 == z10) then
 if (((y0.getD y2.toNat T2.dflt).2.1 == z10) = true) ∧ ((f_u1 k yield_800 yield_801 yield_802 yield_803 y3 (y0.getD y2.toNat T2.dflt)).isSome = true) then
 f_u21_1 k yield_800 yield_801 yield_802 yield_803 yield_120 z10 j y0 y1 ((i64.wrap (y2 + 1))) ((v_u1 k yield_800 yield_801 yield_802 yield_803 y3 (y0.getD y2.toNat T2.dflt)))
 else none
 else
 if (((y0.getD y2.toNat T2.dflt).2.1 == z10) = false) then
 f_u21_1 k yield_800 yield_801 yield_802 yield_803 yield_120 z10 j y0 y1 ((i64.wrap (y2 + 1))) y3
 else none
 else none
 else
 some y3
def f_u21 (k : Nat) (yield_800 : Int) (yield_801 : Int) (yield_802 : List (T2).T) (yield_803 : List ((I).T × (I).T)) (yield_120 : Int) (z10 : Int) : Option R_u21 :=
 f_u21_1 k yield_800 yield_801 yield_802 yield_803 yield_120 z10 k yield_802 ((↑yield_802.length : Int)) 0 yield_120
def v_u21 (k : Nat) (yield_800 : Int) (yield_801 : Int) (yield_802 : List (T2).T) (yield_803 : List ((I).T × (I).T)) (yield_120 : Int) (z10 : Int) : R_u21 := (f_u21 k yield_800 yield_801 yield_802 yield_803 yield_120 z10).getD 0
def K_u21 (k : Nat) : Calld := ⟨fun g xs => match g with
 | 1000000 => match xs with
  | [_] => some [false]
  | _ => none
 | _ => none, fun g xs bs => match g with
 | 1000000 => match xs, bs with
  | [.agg qx0], [.loop _ _ _ qs, .var 66 [.ptr 2 0 0], .var 73 [.r (.v (.int .i64 s800)), .r (.v (.int .i64 s801)), .r (.ro ts802_ qs802), .own 3 0], .map false ks803_ ts803_ qs803, .var 3 [.r (.v (.int .i64 s120))]] => (decS [] T2 qx0).bind fun x0 => (castL ts802_ T2 qs802).bind fun s802 => (castM ks803_ ts803_ I I qs803).bind fun s803 => some (.one (res_u1 (v_u1 k s800 s801 s802 s803 s120 x0), bo_u1 s800 s801 s802 s803 s120 x0 (v_u1 k s800 s801 s802 s803 s120 x0)))
  | _, _ => none
 | _ => none⟩
theorem ev_u21 (k : Nat) (yield_800 : Int) (yield_801 : Int) (yield_802 : List (T2).T) (yield_803 : List ((I).T × (I).T)) (yield_120 : Int) (z10 : Int) : ∀ j, (∀ (y0 : List (T2).T) (y1 : Int) (y2 : Int) (y3 : Int) (r : R_u21), f_u21_1 k yield_800 yield_801 yield_802 yield_803 yield_120 z10 j y0 y1 y2 y3 = some r → Ev Tryz.prog Tryz.f64 7 (placeAt Tryz.f64 1) (st_u21_1 yield_800 yield_801 yield_802 yield_803 yield_120 z10 y0 y1 y2 y3) (res_u21 r) (bo_u21 yield_800 yield_801 yield_802 yield_803 yield_120 z10 r))
 | 0 => by
  intros; rename_i h; simp [f_u21_1] at h
 | j + 1 => by
  have ih := ev_u21 k yield_800 yield_801 yield_802 yield_803 yield_120 z10 j
  ·intro y0 y1 y2 y3 r h
   rw [f_u21_1] at h
   refine Ev.tree hm (R := Rt) (K := (K_u21 k)) (l := []) (C := [(1, [.autoB [0, 2, 9, 10, 11] false []])]) (E := [.autoB [] true []]) (n := 1000) (T := .test ((decide (y2 < y1))) (.need [0 ≤ y2, y2 < (↑y0.length : Int)] (.test (((y0.getD y2.toNat T2.dflt).2.1 == z10)) (.need [((y0.getD y2.toNat T2.dflt).2.1 == z10) = true, YC Tryz.prog (args_u1 yield_800 yield_801 yield_802 yield_803 y3 (y0.getD y2.toNat T2.dflt)) (bin_u1 yield_800 yield_801 yield_802 yield_803 y3 (y0.getD y2.toNat T2.dflt)) (res_u1 (v_u1 k yield_800 yield_801 yield_802 yield_803 y3 (y0.getD y2.toNat T2.dflt))) (bo_u1 yield_800 yield_801 yield_802 yield_803 y3 (y0.getD y2.toNat T2.dflt) (v_u1 k yield_800 yield_801 yield_802 yield_803 y3 (y0.getD y2.toNat T2.dflt)))] (.test (false) (.leaf (res_u21 (v_u1 k yield_800 yield_801 yield_802 yield_803 y3 (y0.getD y2.toNat T2.dflt))) (bo_u21 yield_800 yield_801 yield_802 yield_803 yield_120 z10 (v_u1 k yield_800 yield_801 yield_802 yield_803 y3 (y0.getD y2.toNat T2.dflt)))) (.cut 1 (placeAt Tryz.f64 1) (st_u21_1 yield_800 yield_801 yield_802 yield_803 yield_120 z10 y0 y1 ((i64.wrap (y2 + 1))) ((v_u1 k yield_800 yield_801 yield_802 yield_803 y3 (y0.getD y2.toNat T2.dflt))))))) (.need [((y0.getD y2.toNat T2.dflt).2.1 == z10) = false] (.test (false) (.leaf (res_u21 y3) (bo_u21 yield_800 yield_801 yield_802 yield_803 yield_120 z10 y3)) (.cut 1 (placeAt Tryz.f64 1) (st_u21_1 yield_800 yield_801 yield_802 yield_803 yield_120 z10 y0 y1 ((i64.wrap (y2 + 1))) y3)))))) (.leaf (res_u21 y3) (bo_u21 yield_800 yield_801 yield_802 yield_803 yield_120 z10 y3))) (by kernel_rfl) ?_
   refine ⟨fun c => ?_, fun c => ?_⟩
   ·rw [cond_t (show ((decide (y2 < y1))) = true from c)] at h
    by_cases q : (0 ≤ y2) ∧ (y2 < (↑y0.length : Int))
    ·rw [if_pos q] at h
     refine ⟨(conjC q.1 (conjC q.2 conj0)), ?_⟩
     refine ⟨fun c => ?_, fun c => ?_⟩
     ·rw [cond_t (show (((y0.getD y2.toNat T2.dflt).2.1 == z10)) = true from c)] at h
      by_cases q : (((y0.getD y2.toNat T2.dflt).2.1 == z10) = true) ∧ ((f_u1 k yield_800 yield_801 yield_802 yield_803 y3 (y0.getD y2.toNat T2.dflt)).isSome = true)
      ·rw [if_pos q] at h
       refine ⟨(conjC q.1 (conjC (cc_u1 k yield_800 yield_801 yield_802 yield_803 y3 (y0.getD y2.toNat T2.dflt) q.2) conj0)), ?_⟩
       refine ⟨fun c => ?_, fun c => ?_⟩
       ·cases c
       exact ih y0 y1 ((i64.wrap (y2 + 1))) ((v_u1 k yield_800 yield_801 yield_802 yield_803 y3 (y0.getD y2.toNat T2.dflt))) _ h
      ·rw [if_neg q] at h; cases h
     ·rw [cond_f (show (((y0.getD y2.toNat T2.dflt).2.1 == z10)) = false from c)] at h
      by_cases q : (((y0.getD y2.toNat T2.dflt).2.1 == z10) = false)
      ·rw [if_pos q] at h
       refine ⟨(conjC q conj0), ?_⟩
       refine ⟨fun c => ?_, fun c => ?_⟩
       ·cases c
       exact ih y0 y1 ((i64.wrap (y2 + 1))) y3 _ h
      ·rw [if_neg q] at h; cases h
    ·rw [if_neg q] at h; cases h
   ·rw [cond_f (show ((decide (y2 < y1))) = false from c)] at h
    cases h; exact ⟨rfl, rfl⟩
theorem of_u21 (k : Nat) (yield_800 : Int) (yield_801 : Int) (yield_802 : List (T2).T) (yield_803 : List ((I).T × (I).T)) (yield_120 : Int) (z10 : Int) (r : R_u21) (h : f_u21 k yield_800 yield_801 yield_802 yield_803 yield_120 z10 = some r) : CC Tryz.prog 64 (args_u21 yield_800 yield_801 yield_802 yield_803 yield_120 z10) (bin_u21 yield_800 yield_801 yield_802 yield_803 yield_120 z10) (res_u21 r) (bo_u21 yield_800 yield_801 yield_802 yield_803 yield_120 z10 r) := by
 refine CC.of (fn := Tryz.f64) (by kernel_rfl) (by kernel_rfl) (by kernel_rfl) (by kernel_rfl) ?_
 unfold f_u21 at h
 refine Ev.tree hm (R := Rt) (K := (K_u21 k)) (l := []) (C := [(1, [.autoB [0, 2, 9, 10, 11] false []])]) (E := [.autoB [] true []]) (n := 1000) (T := .cut 1 (placeAt Tryz.f64 1) (st_u21_1 yield_800 yield_801 yield_802 yield_803 yield_120 z10 yield_802 ((↑yield_802.length : Int)) 0 yield_120)) (by kernel_rfl) ?_
 exact (ev_u21 k yield_800 yield_801 yield_802 yield_803 yield_120 z10 k) yield_802 ((↑yield_802.length : Int)) 0 yield_120 _ h
theorem cc_u21 (k : Nat) (yield_800 : Int) (yield_801 : Int) (yield_802 : List (T2).T) (yield_803 : List ((I).T × (I).T)) (yield_120 : Int) (z10 : Int) (h : (f_u21 k yield_800 yield_801 yield_802 yield_803 yield_120 z10).isSome = true) : CC Tryz.prog 64 (args_u21 yield_800 yield_801 yield_802 yield_803 yield_120 z10) (bin_u21 yield_800 yield_801 yield_802 yield_803 yield_120 z10) (res_u21 (v_u21 k yield_800 yield_801 yield_802 yield_803 yield_120 z10)) (bo_u21 yield_800 yield_801 yield_802 yield_803 yield_120 z10 (v_u21 k yield_800 yield_801 yield_802 yield_803 yield_120 z10)) := by
 cases e : f_u21 k yield_800 yield_801 yield_802 yield_803 yield_120 z10 with
 | none => rw [e] at h; cases h
 | some r => rw [show v_u21 k yield_800 yield_801 yield_802 yield_803 yield_120 z10 = r by simp [v_u21, e]]; exact of_u21 k yield_800 yield_801 yield_802 yield_803 yield_120 z10 r e

end
end Go.AM
namespace Go.AM
open Go Go.Proofs Go.IntKind
set_option linter.unusedVariables false
noncomputable section
abbrev R_u8 : Type := Int × Int
def res_u8 (r : R_u8) : AV := .tup [.r (.v (.int .i64 r.1)), .r (.v (.int .i64 r.2))]
def bo_u8 (l_ : List (T2).T) (web_ : T5.T) (id_ : Int) (r : R_u8) : List (Nat × Blk) := []
def args_u8 (l_ : List (T2).T) (web_ : T5.T) (id_ : Int) : List AV := [.r (.ro T2 l_), .agg (rvs (enc T5 web_)), .r (.v (.int .i64 id_))]
def bin_u8 (l_ : List (T2).T) (web_ : T5.T) (id_ : Int) : List Blk := []
def f_u8 (k : Nat) (l_ : List (T2).T) (web_ : T5.T) (id_ : Int) : Option R_u8 :=
 bif (Sum.isLeft (v_u14 k l_ web_ id_)) then
 if ((f_u14 k l_ web_ id_).isSome = true) then
 bif (vA_u14 k l_ web_ id_ != (0 : Int)) then
 some ((0, vA_u14 k l_ web_ id_))
 else
 none
 else none
 else
 if ((f_u14 k l_ web_ id_).isSome = true) then
 bif ((vB_u14 k l_ web_ id_).1 != (0 : Int)) then
 some ((0, (vB_u14 k l_ web_ id_).1))
 else
 if ((f_u27 k (vB_u14 k l_ web_ id_).2.1 (vB_u14 k l_ web_ id_).2.2.1 (vB_u14 k l_ web_ id_).2.2.2.1 (vB_u14 k l_ web_ id_).2.2.2.2 id_).isSome = true) then
 if ((f_u19 k (vB_u14 k l_ web_ id_).2.1 (vB_u14 k l_ web_ id_).2.2.1 (vB_u14 k l_ web_ id_).2.2.2.1 (vB_u14 k l_ web_ id_).2.2.2.2 id_).isSome = true) then
 if ((f_u21 k (vB_u14 k l_ web_ id_).2.1 (vB_u14 k l_ web_ id_).2.2.1 (vB_u14 k l_ web_ id_).2.2.2.1 (vB_u14 k l_ web_ id_).2.2.2.2 (i64.wrap ((v_u27 k (vB_u14 k l_ web_ id_).2.1 (vB_u14 k l_ web_ id_).2.2.1 (vB_u14 k l_ web_ id_).2.2.2.1 (vB_u14 k l_ web_ id_).2.2.2.2 id_).1 * (v_u27 k (vB_u14 k l_ web_ id_).2.1 (vB_u14 k l_ web_ id_).2.2.1 (vB_u14 k l_ web_ id_).2.2.2.1 (vB_u14 k l_ web_ id_).2.2.2.2 id_).2)) (v_u19 k (vB_u14 k l_ web_ id_).2.1 (vB_u14 k l_ web_ id_).2.2.1 (vB_u14 k l_ web_ id_).2.2.2.1 (vB_u14 k l_ web_ id_).2.2.2.2 id_)).isSome = true) then
 some ((v_u21 k (vB_u14 k l_ web_ id_).2.1 (vB_u14 k l_ web_ id_).2.2.1 (vB_u14 k l_ web_ id_).2.2.2.1 (vB_u14 k l_ web_ id_).2.2.2.2 (i64.wrap ((v_u27 k (vB_u14 k l_ web_ id_).2.1 (vB_u14 k l_ web_ id_).2.2.1 (vB_u14 k l_ web_ id_).2.2.2.1 (vB_u14 k l_ web_ id_).2.2.2.2 id_).1 * (v_u27 k (vB_u14 k l_ web_ id_).2.1 (vB_u14 k l_ web_ id_).2.2.1 (vB_u14 k l_ web_ id_).2.2.2.1 (vB_u14 k l_ web_ id_).2.2.2.2 id_).2)) (v_u19 k (vB_u14 k l_ web_ id_).2.1 (vB_u14 k l_ web_ id_).2.2.1 (vB_u14 k l_ web_ id_).2.2.2.1 (vB_u14 k l_ web_ id_).2.2.2.2 id_), 0))
 else none
 else none
 else none
 else none
def v_u8 (k : Nat) (l_ : List (T2).T) (web_ : T5.T) (id_ : Int) : R_u8 := (f_u8 k l_ web_ id_).getD (0, 0)
def K_u8 (k : Nat) : Calld := ⟨fun g xs => match g with
 | 42 => match xs with
  | [.ptr _ _ _, _] => some [true, false]
  | _ => none
 | 30 => match xs with
  | [_, _, _] => some [false, false, false]
  | _ => none
 | 44 => match xs with
  | [.ptr _ _ _, _] => some [true, false]
  | _ => none
 | 64 => match xs with
  | [.own _ _, .ptr _ _ _, .ptr _ _ _] => some [true, true, true]
  | _ => none
 | _ => none, fun g xs bs => match g with
 | 42 => match xs, bs with
  | [.ptr 0 0 0, .r (.v (.int .i64 id_))], [.var 73 [.r (.v (.int .i64 g_0)), .r (.v (.int .i64 g_1)), .r (.ro tg_2_ qg_2), .own 1 0], .map false kg_3_ tg_3_ qg_3] => (castL tg_2_ T2 qg_2).bind fun g_2 => (castM kg_3_ tg_3_ I I qg_3).bind fun g_3 => some (.one (res_u27 (v_u27 k g_0 g_1 g_2 g_3 id_), bo_u27 g_0 g_1 g_2 g_3 id_ (v_u27 k g_0 g_1 g_2 g_3 id_)))
  | _, _ => none
 | 30 => match xs, bs with
  | [.r (.ro tl__ ql_), .agg qweb_, .r (.v (.int .i64 id_))], [] => (castL tl__ T2 ql_).bind fun l_ => (decS [] T5 qweb_).bind fun web_ => some (.two (v_u14 k l_ web_ id_).isLeft (resA_u14 (vA_u14 k l_ web_ id_), boA_u14 l_ web_ id_ (vA_u14 k l_ web_ id_)) (resB_u14 (vB_u14 k l_ web_ id_), boB_u14 l_ web_ id_ (vB_u14 k l_ web_ id_)))
  | _, _ => none
 | 44 => match xs, bs with
  | [.ptr 0 0 0, .r (.v (.int .i64 id_))], [.var 73 [.r (.v (.int .i64 g_0)), .r (.v (.int .i64 g_1)), .r (.ro tg_2_ qg_2), .own 1 0], .map false kg_3_ tg_3_ qg_3] => (castL tg_2_ T2 qg_2).bind fun g_2 => (castM kg_3_ tg_3_ I I qg_3).bind fun g_3 => some (.one (res_u19 (v_u19 k g_0 g_1 g_2 g_3 id_), bo_u19 g_0 g_1 g_2 g_3 id_ (v_u19 k g_0 g_1 g_2 g_3 id_)))
  | _, _ => none
 | 64 => match xs, bs with
  | [.own 0 0, .ptr 5 0 0, .ptr 6 0 0], [.loop _ _ _ qyield_, .var 66 [.ptr 2 0 0], .var 73 [.r (.v (.int .i64 yield_800)), .r (.v (.int .i64 yield_801)), .r (.ro tyield_802_ qyield_802), .own 3 0], .map false kyield_803_ tyield_803_ qyield_803, .var 3 [.r (.v (.int .i64 yield_120))], .var 66 [.ptr 2 0 0], .var 3 [.r (.v (.int .i64 z10))]] => (castL tyield_802_ T2 qyield_802).bind fun yield_802 => (castM kyield_803_ tyield_803_ I I qyield_803).bind fun yield_803 => some (.one (res_u21 (v_u21 k yield_800 yield_801 yield_802 yield_803 yield_120 z10), bo_u21 yield_800 yield_801 yield_802 yield_803 yield_120 z10 (v_u21 k yield_800 yield_801 yield_802 yield_803 yield_120 z10)))
  | _, _ => none
 | _ => none⟩
theorem of_u8 (k : Nat) (l_ : List (T2).T) (web_ : T5.T) (id_ : Int) (r : R_u8) (h : f_u8 k l_ web_ id_ = some r) : CC Tryz.prog 23 (args_u8 l_ web_ id_) (bin_u8 l_ web_ id_) (res_u8 r) (bo_u8 l_ web_ id_ r) := by
 refine CC.of (fn := Tryz.f23) (by kernel_rfl) (by kernel_rfl) (by kernel_rfl) (by kernel_rfl) ?_
 unfold f_u8 at h
 refine Ev.tree hm (R := Rt) (K := (K_u8 k)) (l := []) (C := []) (E := [.autoB [6, 7] true []]) (n := 1000) (T := .test ((Sum.isLeft (v_u14 k l_ web_ id_))) (.need [CC Tryz.prog 30 (args_u14 l_ web_ id_) (bin_u14 l_ web_ id_) (resA_u14 (vA_u14 k l_ web_ id_)) (boA_u14 l_ web_ id_ (vA_u14 k l_ web_ id_))] (.test ((vA_u14 k l_ web_ id_ != (0 : Int))) (.leaf (res_u8 ((0, vA_u14 k l_ web_ id_))) (bo_u8 l_ web_ id_ ((0, vA_u14 k l_ web_ id_)))) (.stuck 2002))) (.need [CC Tryz.prog 30 (args_u14 l_ web_ id_) (bin_u14 l_ web_ id_) (resB_u14 (vB_u14 k l_ web_ id_)) (boB_u14 l_ web_ id_ (vB_u14 k l_ web_ id_))] (.test (((vB_u14 k l_ web_ id_).1 != (0 : Int))) (.leaf (res_u8 ((0, (vB_u14 k l_ web_ id_).1))) (bo_u8 l_ web_ id_ ((0, (vB_u14 k l_ web_ id_).1)))) (.need [CC Tryz.prog 42 (args_u27 (vB_u14 k l_ web_ id_).2.1 (vB_u14 k l_ web_ id_).2.2.1 (vB_u14 k l_ web_ id_).2.2.2.1 (vB_u14 k l_ web_ id_).2.2.2.2 id_) (bin_u27 (vB_u14 k l_ web_ id_).2.1 (vB_u14 k l_ web_ id_).2.2.1 (vB_u14 k l_ web_ id_).2.2.2.1 (vB_u14 k l_ web_ id_).2.2.2.2 id_) (res_u27 (v_u27 k (vB_u14 k l_ web_ id_).2.1 (vB_u14 k l_ web_ id_).2.2.1 (vB_u14 k l_ web_ id_).2.2.2.1 (vB_u14 k l_ web_ id_).2.2.2.2 id_)) (bo_u27 (vB_u14 k l_ web_ id_).2.1 (vB_u14 k l_ web_ id_).2.2.1 (vB_u14 k l_ web_ id_).2.2.2.1 (vB_u14 k l_ web_ id_).2.2.2.2 id_ (v_u27 k (vB_u14 k l_ web_ id_).2.1 (vB_u14 k l_ web_ id_).2.2.1 (vB_u14 k l_ web_ id_).2.2.2.1 (vB_u14 k l_ web_ id_).2.2.2.2 id_))] (.need [CC Tryz.prog 44 (args_u19 (vB_u14 k l_ web_ id_).2.1 (vB_u14 k l_ web_ id_).2.2.1 (vB_u14 k l_ web_ id_).2.2.2.1 (vB_u14 k l_ web_ id_).2.2.2.2 id_) (bin_u19 (vB_u14 k l_ web_ id_).2.1 (vB_u14 k l_ web_ id_).2.2.1 (vB_u14 k l_ web_ id_).2.2.2.1 (vB_u14 k l_ web_ id_).2.2.2.2 id_) (res_u19 (v_u19 k (vB_u14 k l_ web_ id_).2.1 (vB_u14 k l_ web_ id_).2.2.1 (vB_u14 k l_ web_ id_).2.2.2.1 (vB_u14 k l_ web_ id_).2.2.2.2 id_)) (bo_u19 (vB_u14 k l_ web_ id_).2.1 (vB_u14 k l_ web_ id_).2.2.1 (vB_u14 k l_ web_ id_).2.2.2.1 (vB_u14 k l_ web_ id_).2.2.2.2 id_ (v_u19 k (vB_u14 k l_ web_ id_).2.1 (vB_u14 k l_ web_ id_).2.2.1 (vB_u14 k l_ web_ id_).2.2.2.1 (vB_u14 k l_ web_ id_).2.2.2.2 id_))] (.need [CC Tryz.prog 64 (args_u21 (vB_u14 k l_ web_ id_).2.1 (vB_u14 k l_ web_ id_).2.2.1 (vB_u14 k l_ web_ id_).2.2.2.1 (vB_u14 k l_ web_ id_).2.2.2.2 (i64.wrap ((v_u27 k (vB_u14 k l_ web_ id_).2.1 (vB_u14 k l_ web_ id_).2.2.1 (vB_u14 k l_ web_ id_).2.2.2.1 (vB_u14 k l_ web_ id_).2.2.2.2 id_).1 * (v_u27 k (vB_u14 k l_ web_ id_).2.1 (vB_u14 k l_ web_ id_).2.2.1 (vB_u14 k l_ web_ id_).2.2.2.1 (vB_u14 k l_ web_ id_).2.2.2.2 id_).2)) (v_u19 k (vB_u14 k l_ web_ id_).2.1 (vB_u14 k l_ web_ id_).2.2.1 (vB_u14 k l_ web_ id_).2.2.2.1 (vB_u14 k l_ web_ id_).2.2.2.2 id_)) (bin_u21 (vB_u14 k l_ web_ id_).2.1 (vB_u14 k l_ web_ id_).2.2.1 (vB_u14 k l_ web_ id_).2.2.2.1 (vB_u14 k l_ web_ id_).2.2.2.2 (i64.wrap ((v_u27 k (vB_u14 k l_ web_ id_).2.1 (vB_u14 k l_ web_ id_).2.2.1 (vB_u14 k l_ web_ id_).2.2.2.1 (vB_u14 k l_ web_ id_).2.2.2.2 id_).1 * (v_u27 k (vB_u14 k l_ web_ id_).2.1 (vB_u14 k l_ web_ id_).2.2.1 (vB_u14 k l_ web_ id_).2.2.2.1 (vB_u14 k l_ web_ id_).2.2.2.2 id_).2)) (v_u19 k (vB_u14 k l_ web_ id_).2.1 (vB_u14 k l_ web_ id_).2.2.1 (vB_u14 k l_ web_ id_).2.2.2.1 (vB_u14 k l_ web_ id_).2.2.2.2 id_)) (res_u21 (v_u21 k (vB_u14 k l_ web_ id_).2.1 (vB_u14 k l_ web_ id_).2.2.1 (vB_u14 k l_ web_ id_).2.2.2.1 (vB_u14 k l_ web_ id_).2.2.2.2 (i64.wrap ((v_u27 k (vB_u14 k l_ web_ id_).2.1 (vB_u14 k l_ web_ id_).2.2.1 (vB_u14 k l_ web_ id_).2.2.2.1 (vB_u14 k l_ web_ id_).2.2.2.2 id_).1 * (v_u27 k (vB_u14 k l_ web_ id_).2.1 (vB_u14 k l_ web_ id_).2.2.1 (vB_u14 k l_ web_ id_).2.2.2.1 (vB_u14 k l_ web_ id_).2.2.2.2 id_).2)) (v_u19 k (vB_u14 k l_ web_ id_).2.1 (vB_u14 k l_ web_ id_).2.2.1 (vB_u14 k l_ web_ id_).2.2.2.1 (vB_u14 k l_ web_ id_).2.2.2.2 id_))) (bo_u21 (vB_u14 k l_ web_ id_).2.1 (vB_u14 k l_ web_ id_).2.2.1 (vB_u14 k l_ web_ id_).2.2.2.1 (vB_u14 k l_ web_ id_).2.2.2.2 (i64.wrap ((v_u27 k (vB_u14 k l_ web_ id_).2.1 (vB_u14 k l_ web_ id_).2.2.1 (vB_u14 k l_ web_ id_).2.2.2.1 (vB_u14 k l_ web_ id_).2.2.2.2 id_).1 * (v_u27 k (vB_u14 k l_ web_ id_).2.1 (vB_u14 k l_ web_ id_).2.2.1 (vB_u14 k l_ web_ id_).2.2.2.1 (vB_u14 k l_ web_ id_).2.2.2.2 id_).2)) (v_u19 k (vB_u14 k l_ web_ id_).2.1 (vB_u14 k l_ web_ id_).2.2.1 (vB_u14 k l_ web_ id_).2.2.2.1 (vB_u14 k l_ web_ id_).2.2.2.2 id_) (v_u21 k (vB_u14 k l_ web_ id_).2.1 (vB_u14 k l_ web_ id_).2.2.1 (vB_u14 k l_ web_ id_).2.2.2.1 (vB_u14 k l_ web_ id_).2.2.2.2 (i64.wrap ((v_u27 k (vB_u14 k l_ web_ id_).2.1 (vB_u14 k l_ web_ id_).2.2.1 (vB_u14 k l_ web_ id_).2.2.2.1 (vB_u14 k l_ web_ id_).2.2.2.2 id_).1 * (v_u27 k (vB_u14 k l_ web_ id_).2.1 (vB_u14 k l_ web_ id_).2.2.1 (vB_u14 k l_ web_ id_).2.2.2.1 (vB_u14 k l_ web_ id_).2.2.2.2 id_).2)) (v_u19 k (vB_u14 k l_ web_ id_).2.1 (vB_u14 k l_ web_ id_).2.2.1 (vB_u14 k l_ web_ id_).2.2.2.1 (vB_u14 k l_ web_ id_).2.2.2.2 id_)))] (.leaf (res_u8 ((v_u21 k (vB_u14 k l_ web_ id_).2.1 (vB_u14 k l_ web_ id_).2.2.1 (vB_u14 k l_ web_ id_).2.2.2.1 (vB_u14 k l_ web_ id_).2.2.2.2 (i64.wrap ((v_u27 k (vB_u14 k l_ web_ id_).2.1 (vB_u14 k l_ web_ id_).2.2.1 (vB_u14 k l_ web_ id_).2.2.2.1 (vB_u14 k l_ web_ id_).2.2.2.2 id_).1 * (v_u27 k (vB_u14 k l_ web_ id_).2.1 (vB_u14 k l_ web_ id_).2.2.1 (vB_u14 k l_ web_ id_).2.2.2.1 (vB_u14 k l_ web_ id_).2.2.2.2 id_).2)) (v_u19 k (vB_u14 k l_ web_ id_).2.1 (vB_u14 k l_ web_ id_).2.2.1 (vB_u14 k l_ web_ id_).2.2.2.1 (vB_u14 k l_ web_ id_).2.2.2.2 id_), 0))) (bo_u8 l_ web_ id_ ((v_u21 k (vB_u14 k l_ web_ id_).2.1 (vB_u14 k l_ web_ id_).2.2.1 (vB_u14 k l_ web_ id_).2.2.2.1 (vB_u14 k l_ web_ id_).2.2.2.2 (i64.wrap ((v_u27 k (vB_u14 k l_ web_ id_).2.1 (vB_u14 k l_ web_ id_).2.2.1 (vB_u14 k l_ web_ id_).2.2.2.1 (vB_u14 k l_ web_ id_).2.2.2.2 id_).1 * (v_u27 k (vB_u14 k l_ web_ id_).2.1 (vB_u14 k l_ web_ id_).2.2.1 (vB_u14 k l_ web_ id_).2.2.2.1 (vB_u14 k l_ web_ id_).2.2.2.2 id_).2)) (v_u19 k (vB_u14 k l_ web_ id_).2.1 (vB_u14 k l_ web_ id_).2.2.1 (vB_u14 k l_ web_ id_).2.2.2.1 (vB_u14 k l_ web_ id_).2.2.2.2 id_), 0)))))))))) (by kernel_rfl) ?_
 refine ⟨fun c => ?_, fun c => ?_⟩
 ·rw [cond_t (show ((Sum.isLeft (v_u14 k l_ web_ id_))) = true from c)] at h
  by_cases q : ((f_u14 k l_ web_ id_).isSome = true)
  ·rw [if_pos q] at h
   refine ⟨(conjC (ccA_u14 k l_ web_ id_ q (by assumption)) conj0), ?_⟩
   refine ⟨fun c => ?_, fun c => ?_⟩
   ·rw [cond_t (show ((vA_u14 k l_ web_ id_ != (0 : Int))) = true from c)] at h
    cases h; exact ⟨rfl, rfl⟩
   ·rw [cond_f (show ((vA_u14 k l_ web_ id_ != (0 : Int))) = false from c)] at h
    cases h
  ·rw [if_neg q] at h; cases h
 ·rw [cond_f (show ((Sum.isLeft (v_u14 k l_ web_ id_))) = false from c)] at h
  by_cases q : ((f_u14 k l_ web_ id_).isSome = true)
  ·rw [if_pos q] at h
   refine ⟨(conjC (ccB_u14 k l_ web_ id_ q (by assumption)) conj0), ?_⟩
   refine ⟨fun c => ?_, fun c => ?_⟩
   ·rw [cond_t (show (((vB_u14 k l_ web_ id_).1 != (0 : Int))) = true from c)] at h
    cases h; exact ⟨rfl, rfl⟩
   ·rw [cond_f (show (((vB_u14 k l_ web_ id_).1 != (0 : Int))) = false from c)] at h
    by_cases q : ((f_u27 k (vB_u14 k l_ web_ id_).2.1 (vB_u14 k l_ web_ id_).2.2.1 (vB_u14 k l_ web_ id_).2.2.2.1 (vB_u14 k l_ web_ id_).2.2.2.2 id_).isSome = true)
    ·rw [if_pos q] at h
     refine ⟨(conjC (cc_u27 k (vB_u14 k l_ web_ id_).2.1 (vB_u14 k l_ web_ id_).2.2.1 (vB_u14 k l_ web_ id_).2.2.2.1 (vB_u14 k l_ web_ id_).2.2.2.2 id_ q) conj0), ?_⟩
     by_cases q : ((f_u19 k (vB_u14 k l_ web_ id_).2.1 (vB_u14 k l_ web_ id_).2.2.1 (vB_u14 k l_ web_ id_).2.2.2.1 (vB_u14 k l_ web_ id_).2.2.2.2 id_).isSome = true)
     ·rw [if_pos q] at h
      refine ⟨(conjC (cc_u19 k (vB_u14 k l_ web_ id_).2.1 (vB_u14 k l_ web_ id_).2.2.1 (vB_u14 k l_ web_ id_).2.2.2.1 (vB_u14 k l_ web_ id_).2.2.2.2 id_ q) conj0), ?_⟩
      by_cases q : ((f_u21 k (vB_u14 k l_ web_ id_).2.1 (vB_u14 k l_ web_ id_).2.2.1 (vB_u14 k l_ web_ id_).2.2.2.1 (vB_u14 k l_ web_ id_).2.2.2.2 (i64.wrap ((v_u27 k (vB_u14 k l_ web_ id_).2.1 (vB_u14 k l_ web_ id_).2.2.1 (vB_u14 k l_ web_ id_).2.2.2.1 (vB_u14 k l_ web_ id_).2.2.2.2 id_).1 * (v_u27 k (vB_u14 k l_ web_ id_).2.1 (vB_u14 k l_ web_ id_).2.2.1 (vB_u14 k l_ web_ id_).2.2.2.1 (vB_u14 k l_ web_ id_).2.2.2.2 id_).2)) (v_u19 k (vB_u14 k l_ web_ id_).2.1 (vB_u14 k l_ web_ id_).2.2.1 (vB_u14 k l_ web_ id_).2.2.2.1 (vB_u14 k l_ web_ id_).2.2.2.2 id_)).isSome = true)
      ·rw [if_pos q] at h
       refine ⟨(conjC (cc_u21 k (vB_u14 k l_ web_ id_).2.1 (vB_u14 k l_ web_ id_).2.2.1 (vB_u14 k l_ web_ id_).2.2.2.1 (vB_u14 k l_ web_ id_).2.2.2.2 (i64.wrap ((v_u27 k (vB_u14 k l_ web_ id_).2.1 (vB_u14 k l_ web_ id_).2.2.1 (vB_u14 k l_ web_ id_).2.2.2.1 (vB_u14 k l_ web_ id_).2.2.2.2 id_).1 * (v_u27 k (vB_u14 k l_ web_ id_).2.1 (vB_u14 k l_ web_ id_).2.2.1 (vB_u14 k l_ web_ id_).2.2.2.1 (vB_u14 k l_ web_ id_).2.2.2.2 id_).2)) (v_u19 k (vB_u14 k l_ web_ id_).2.1 (vB_u14 k l_ web_ id_).2.2.1 (vB_u14 k l_ web_ id_).2.2.2.1 (vB_u14 k l_ web_ id_).2.2.2.2 id_) q) conj0), ?_⟩
       cases h; exact ⟨rfl, rfl⟩
      ·rw [if_neg q] at h; cases h
     ·rw [if_neg q] at h; cases h
    ·rw [if_neg q] at h; cases h
  ·rw [if_neg q] at h; cases h
theorem cc_u8 (k : Nat) (l_ : List (T2).T) (web_ : T5.T) (id_ : Int) (h : (f_u8 k l_ web_ id_).isSome = true) : CC Tryz.prog 23 (args_u8 l_ web_ id_) (bin_u8 l_ web_ id_) (res_u8 (v_u8 k l_ web_ id_)) (bo_u8 l_ web_ id_ (v_u8 k l_ web_ id_)) := by
 cases e : f_u8 k l_ web_ id_ with
 | none => rw [e] at h; cases h
 | some r => rw [show v_u8 k l_ web_ id_ = r by simp [v_u8, e]]; exact of_u8 k l_ web_ id_ r e

end
end Go.AM
namespace Go.AM
open Go Go.Proofs Go.IntKind
set_option linter.unusedVariables false
noncomputable section
end
end Go.AM
namespace Go.AM
open Go Go.Proofs Go.IntKind
set_option linter.unusedVariables false
noncomputable section
end
end Go.AM
namespace Go.AM
open Go Go.Proofs Go.IntKind
set_option linter.unusedVariables false
noncomputable section
end
end Go.AM
namespace Go.AM
open Go Go.Proofs Go.IntKind
set_option linter.unusedVariables false
noncomputable section
end
end Go.AM
namespace Go.AM
open Go Go.Proofs Go.IntKind
set_option linter.unusedVariables false
noncomputable section
end
end Go.AM
namespace Go.AM
open Go Go.Proofs Go.IntKind
set_option linter.unusedVariables false
noncomputable section
end
end Go.AM
namespace Go.AM
open Go Go.Proofs Go.IntKind
set_option linter.unusedVariables false
noncomputable section
end
end Go.AM
namespace Go.AM
open Go Go.Proofs Go.IntKind

def baseS (W L : Int) : Ch := (0, W, false, if L > 0 then [(0, L, false)] else [])
def cutJ (r : Ro) (o : Ch × Int) : Ch × Int :=
 if o.2 ≠ 0 then ((0, 0, false, []), o.2)
 else if (comp r.2.2.2.2.2 o.1.2.2.2).2 ≠ 0 then ((0, 0, false, []), (comp r.2.2.2.2.2 o.1.2.2.2).2)
 else (((if o.1.2.2.1 = true then i64.wrap (i64.wrap (i64.wrap (o.1.1 + o.1.2.1) - r.2.2.1) - r.2.2.2.1) else i64.wrap (o.1.1 + r.2.2.1)),
  r.2.2.2.1, !(o.1.2.2.1 == r.2.2.2.2.1), (comp r.2.2.2.2.2 o.1.2.2.2).1), 0)
def cutS (l : List Ro) (W L : Int) : Nat → Int → Ch × Int
 | 0, _ => (baseS W L, 0)
 | n + 1, id => if id = 0 then (baseS W L, 0) else match look l id with
  | none => (baseS W L, 0)
  | some r => cutJ r (cutS l W L n r.2.1)
theorem Anc.cases {l : List Ro} {n : Nat} {id : Int} (h : Anc l n id) (h0 : id ≠ 0) : ∃ m r, n = m + 1 ∧ look l id = some r ∧ Anc l m r.2.1 := by
 cases h with
 | root => exact absurd rfl h0
 | step m _ r _ e a => exact ⟨m, r, rfl, e, a⟩

theorem fam_cut (W L : Int) (l : List Ro) (M : List (Int × Int)) (hM : RegOk M l) : ∀ (n : Nat) (id : Int) (k : Nat), Anc l n id → n + 1000 < k → f_u18 k W L l M id = some (cutS l W L n id) := by
 have hbase : ∀ k, f_u18 (k + 1) W L l M 0 = some (baseS W L, 0) := fun k => by
  rw [f_u18]
  show (bif decide (L > 0) then some (((0 : Int), (W, (false, [((0 : Int), L, false)]))), (0 : Int)) else some (((0 : Int), (W, (false, []))), (0 : Int))) = _
  unfold baseS
  by_cases h : L > 0
  ·rw [decide_eq_true h, if_pos h]; rfl
  ·rw [decide_eq_false h, if_neg h]; rfl
 intro n
 induction n with
 | zero =>
  intro id k ha hk
  obtain ⟨k, rfl⟩ : ∃ q, k = q + 1 := ⟨k - 1, by omega⟩
  by_cases h0 : id = 0
  ·rw [h0, hbase]; rfl
  ·obtain ⟨m, _, e, _⟩ := ha.cases h0
   cases e
 | succ n ih =>
  intro id k ha hk
  obtain ⟨k, rfl⟩ : ∃ q, k = q + 1 := ⟨k - 1, by omega⟩
  by_cases h0 : id = 0
  ·rw [h0, hbase]
   unfold cutS
   rw [if_pos rfl]
  ·obtain ⟨m, r, em, e, a⟩ := ha.cases h0
   cases em
   have hf := ih r.2.1 k a (by omega)
   obtain ⟨x, e1, e2, e3⟩ := (hM id).some e
   have hx : (x : Int) < (l.length : Int) := by omega
   rw [f_u18]
   unfold cutS w_u18
   rw [if_neg h0, beq_false_of_ne h0, cond_false, e, e1, Option.getD_some, if_pos ⟨by omega, hx⟩, Int.toNat_natCast, e3, hf, Option.isSome_some, if_pos rfl, Option.getD_some, iso_Compose_s k (by omega), iso_Compose_v k (by omega)]
   show _ = some (cutJ r (cutS l W L n r.2.1))
   generalize cutS l W L n r.2.1 = o
   unfold cutJ
   by_cases h1 : o.2 = 0
   ·have g1 : ¬ (o.2 ≠ 0) := fun h => h h1
    rw [show (o.2 != 0) = false by simp [h1], cond_false, Option.isSome_some, if_pos rfl]
    rw [if_neg g1]
    generalize comp r.2.2.2.2.2 o.1.2.2.2 = c
    by_cases h2 : c.2 = 0
    ·have g2 : ¬ (c.2 ≠ 0) := fun h => h h2
     rw [show (c.2 != 0) = false by simp [h2], cond_false, if_neg g2]
     cases h3 : o.1.2.2.1
     ·rfl
     ·rfl
    ·rw [bne_iff_ne.2 h2, if_pos h2]; rfl
   ·rw [bne_iff_ne.2 h1]
    rw [if_pos h1]; rfl
def cutFull (l : List Ro) (W L id : Int) : Ch × Int := if errS l W L id ≠ 0 then ((0, 0, false, []), errS l W L id) else cutS l W L 512 id
theorem fam_Cut_s (k : Nat) (hk : 300000 ≤ k) (l : List Ro) (web : Int × Int) (id : Int) : f_u5 k l web id = some (cutFull l web.1 web.2 id) := by
 obtain ⟨h1, h2⟩ := fam_find k hk l web id
 unfold f_u5 vA_u14 vB_u14 v_u14 cutFull
 by_cases h : errS l web.1 web.2 id = 0
 ·obtain ⟨M, m1, m2, e⟩ := h2 h
  obtain ⟨reg, kn⟩ := errS_zero.1 h
  have hi : ¬ (errS l web.1 web.2 id ≠ 0) := fun h' => h' h
  have hc := fam_cut web.1 web.2 l M m1 512 id k (reg.anc kn) (by omega)
  rw [e, if_neg hi]
  show (if (f_u18 k web.1 web.2 l M id).isSome = true then some ((v_u18 k web.1 web.2 l M id).1, (v_u18 k web.1 web.2 l M id).2) else none) = _
  unfold v_u18
  rw [hc]; rfl
 ·rw [h1 h, if_pos h]
  show (bif (errS l web.1 web.2 id != 0) then _ else _) = _
  rw [bne_iff_ne.2 h]; rfl
theorem fam_Cut_v (k : Nat) (hk : 300000 ≤ k) (l : List Ro) (web : Int × Int) (id : Int) : v_u5 k l web id = cutFull l web.1 web.2 id := by
 unfold v_u5; rw [fam_Cut_s k hk l web id]; rfl

theorem ref42_cut (l : List Ro) (web : Int × Int) (reg : Reg l web.1 web.2) : ∀ (n : Nat) (id : Int) (k : Nat), Anc l n id → n + 300001 < k → (id = 0 ∨ ∃ q, look l id = some q) → f_u80 k l web id = some (cutS l web.1 web.2 n id) := by
 obtain ⟨W, L⟩ := web
 have hn := reg.num
 have hbase : ∀ k, 300000 ≤ k → f_u80 (k + 1) l (W, L) 0 = some (baseS W L, 0) := fun k hk => by
  have hz : errS l (W, L).1 (W, L).2 0 = 0 := errS_zero.2 ⟨reg, .inl rfl⟩
  have hs : sizeE l (W, L).1 (W, L).2 0 = (W, L, 0) := by unfold sizeE sizeS; rw [if_neg (fun h => h hz), if_pos rfl]
  rw [f_u80, ref42_Size_s k hk, ref42_Size_v k hk, hs, Option.isSome_some, if_pos rfl]
  show (bif decide (L > 0) then some (((0 : Int), (W, (false, [((0 : Int), L, false)]))), (0 : Int)) else some (((0 : Int), (W, (false, []))), (0 : Int))) = _
  unfold baseS
  by_cases h : L > 0
  ·rw [decide_eq_true h, if_pos h]; rfl
  ·rw [decide_eq_false h, if_neg h]; rfl
 intro n
 induction n with
 | zero =>
  intro id k ha hk kn
  obtain ⟨k, rfl⟩ : ∃ q, k = q + 1 := ⟨k - 1, by omega⟩
  by_cases h0 : id = 0
  ·rw [h0, hbase k (by omega)]; rfl
  ·obtain ⟨m, _, e, _⟩ := ha.cases h0
   cases e
 | succ n ih =>
  intro id k ha hk kn
  obtain ⟨k, rfl⟩ : ∃ q, k = q + 1 := ⟨k - 1, by omega⟩
  by_cases h0 : id = 0
  ·rw [h0, hbase k (by omega)]
   unfold cutS
   rw [if_pos rfl]
  ·obtain ⟨m, r, em, e, a⟩ := ha.cases h0
   cases em
   have ro := reg.ok.ro r (look_some e).1
   have hf := ih r.2.1 k a (by omega) ro.parent
   obtain ⟨o, o1, o2, o3⟩ := ref42_Ix k l id (by omega) (by omega)
   obtain ⟨x, e1, e2, e3⟩ := o3.some e
   have hx : (x : Int) < (l.length : Int) := by omega
   have hz : errS l (W, L).1 (W, L).2 id = 0 := errS_zero.2 ⟨reg, kn⟩
   have hs : (sizeE l (W, L).1 (W, L).2 id).2.2 = 0 := by unfold sizeE; rw [if_neg (fun h => h hz)]
   rw [f_u80, ref42_Size_s k (by omega), ref42_Size_v k (by omega), hs, Option.isSome_some, if_pos rfl]
   unfold cutS w_u80
   show (bif (id == 0) then _ else _) = _
   rw [if_neg h0, beq_false_of_ne h0, cond_false, e, o1, o2, e1, Option.getD_some, if_pos ⟨rfl, by omega, hx⟩, Int.toNat_natCast, e3, hf, Option.isSome_some, if_pos rfl, Option.getD_some, ref13_Compose_s k (by omega), ref13_Compose_v k (by omega)]
   show _ = some (cutJ r (cutS l W L n r.2.1))
   generalize cutS l W L n r.2.1 = o
   unfold cutJ
   by_cases h1 : o.2 = 0
   ·have g1 : ¬ (o.2 ≠ 0) := fun h => h h1
    rw [show (o.2 != 0) = false by simp [h1], cond_false, Option.isSome_some, if_pos rfl, if_pos rfl, if_neg g1]
    generalize comp r.2.2.2.2.2 o.1.2.2.2 = c
    by_cases h2 : c.2 = 0
    ·have g2 : ¬ (c.2 ≠ 0) := fun h => h h2
     rw [show (c.2 != 0) = false by simp [h2], cond_false, cond_false, if_neg g2]
     cases h3 : o.1.2.2.1 <;> cases h4 : r.2.2.2.2.1 <;> rfl
    ·rw [bne_iff_ne.2 h2, if_pos h2]
     cases h3 : o.1.2.2.1 <;> rfl
   ·rw [bne_iff_ne.2 h1, if_pos h1]; rfl
theorem ref42_Cut_s (k : Nat) (hk : 301000 ≤ k) (l : List Ro) (web : Int × Int) (id : Int) : f_u80 k l web id = some (cutFull l web.1 web.2 id) := by
 unfold cutFull
 by_cases h : errS l web.1 web.2 id = 0
 ·obtain ⟨reg, kn⟩ := errS_zero.1 h
  rw [if_neg (fun h' : errS l web.1 web.2 id ≠ 0 => h' h)]
  exact ref42_cut l web reg 512 id k (reg.anc kn) (by omega) kn
 ·obtain ⟨k, rfl⟩ : ∃ q, k = q + 1 := ⟨k - 1, by omega⟩
  rw [if_pos h, f_u80, ref42_Size_s k (by omega), ref42_Size_v k (by omega), Option.isSome_some, if_pos rfl]
  unfold sizeE
  rw [if_pos h]
  show (bif (errS l web.1 web.2 id != 0) then _ else _) = _
  rw [bne_iff_ne.2 h]; rfl
theorem ref42_Cut_v (k : Nat) (hk : 301000 ≤ k) (l : List Ro) (web : Int × Int) (id : Int) : v_u80 k l web id = cutFull l web.1 web.2 id := by
 unfold v_u80; rw [ref42_Cut_s k hk l web id]; rfl

def restGo (id : Int) : List Ro → Int → Int
 | [], y => y
 | r :: t, y => restGo id t (if r.2.1 = id then i64.wrap (y - i64.wrap (r.2.2.2.1 * lenS r.2.2.2.2.2)) else y)
theorem fam_Rest_l (k : Nat) (hk : 2100 ≤ k) (W L : Int) (l : List Ro) (reg : Reg l W L) (M : List (Int × Int)) (hM : RegOk M l) (id z : Int) : ∀ (d i j : Nat) (y : Int), i + d = l.length → d < j →
  f_u21_1 k W L l M z id j l (l.length : Int) (i : Int) y = some (restGo id (l.drop i) y) := by
 intro d
 have hn := reg.num
 induction d with
 | zero =>
  intro i j y hi hj
  obtain ⟨j, rfl⟩ : ∃ q, j = q + 1 := ⟨j - 1, by omega⟩
  rw [f_u21_1, decide_eq_false (by omega : ¬ (i : Int) < (l.length : Int)), cond_false, List.drop_of_length_le (by omega)]; rfl
 | succ d ih =>
  intro i j y hi hj
  obtain ⟨j, rfl⟩ : ∃ q, j = q + 1 := ⟨j - 1, by omega⟩
  have hr : l.getD i T2.dflt ∈ l := getD_mem' _ _ _ (by omega)
  have ro := reg.ok.ro _ hr
  rw [f_u21_1, decide_eq_true (by omega : (i : Int) < (l.length : Int)), cond_true, if_pos ⟨by omega, by omega⟩, Int.toNat_natCast, wrapS i (by omega), drop_cons' l i T2.dflt (by omega), restGo, ih (i + 1) j _ (by omega) (by omega), ih (i + 1) j _ (by omega) (by omega)]
  generalize l.getD i T2.dflt = r at *
  have hp := ro.pos
  obtain ⟨a, b⟩ := fam_size k hk W L l M r.1 reg.wl hM (.inr ⟨r, ro.look⟩)
  have hs := size_some (W := W) (L := L) (by omega : r.1 ≠ 0) ro.look
  have hf : f_u1 k W L l M y r = some (i64.wrap (y - i64.wrap (r.2.2.2.1 * lenS r.2.2.2.2.2))) := by
   unfold f_u1; rw [a, b, hs]; rfl
  have hv : v_u1 k W L l M y r = i64.wrap (y - i64.wrap (r.2.2.2.1 * lenS r.2.2.2.2.2)) := by unfold v_u1; rw [hf]; rfl
  rw [hf, hv]
  by_cases h : r.2.1 = id
  ·rw [show (r.2.1 == id) = true from beq_iff_eq.2 h, cond_true, if_pos ⟨rfl, rfl⟩, if_pos h]
  ·rw [show (r.2.1 == id) = false from beq_false_of_ne h, cond_false, if_pos rfl, if_neg h]
def restE (l : List Ro) (W L id : Int) : Int × Int := if errS l W L id ≠ 0 then (0, errS l W L id) else (restGo id l (i64.wrap ((sizeS l W L id).1 * (sizeS l W L id).2)), 0)
theorem fam_Rest_s (k : Nat) (hk : 300000 ≤ k) (l : List Ro) (web : Int × Int) (id : Int) : f_u8 k l web id = some (restE l web.1 web.2 id) := by
 obtain ⟨h1, h2⟩ := fam_find k hk l web id
 unfold f_u8 vA_u14 vB_u14 v_u14 restE
 by_cases h : errS l web.1 web.2 id = 0
 ·obtain ⟨M, m1, m2, e⟩ := h2 h
  obtain ⟨reg, kn⟩ := errS_zero.1 h
  have hn := reg.num
  have hi : ¬ (errS l web.1 web.2 id ≠ 0) := fun h' => h' h
  obtain ⟨a, b⟩ := fam_size k (by omega) web.1 web.2 l M id m2 m1 kn
  rw [e, if_neg hi]
  show (if (f_u27 k web.1 web.2 l M id).isSome = true then (if (f_u19 k web.1 web.2 l M id).isSome = true then (if (f_u21 k web.1 web.2 l M (i64.wrap ((v_u27 k web.1 web.2 l M id).1 * (v_u27 k web.1 web.2 l M id).2)) id).isSome = true then some (v_u21 k web.1 web.2 l M (i64.wrap ((v_u27 k web.1 web.2 l M id).1 * (v_u27 k web.1 web.2 l M id).2)) id, (0 : Int)) else none) else none) else none) = _
  have hr := fam_Rest_l k (by omega) web.1 web.2 l reg M m1 id (i64.wrap ((sizeS l web.1 web.2 id).1 * (sizeS l web.1 web.2 id).2)) l.length 0 k (i64.wrap ((sizeS l web.1 web.2 id).1 * (sizeS l web.1 web.2 id).2)) (by omega) (by omega)
  unfold v_u21 f_u21
  rw [a, b, show f_u21_1 k web.1 web.2 l M (i64.wrap ((sizeS l web.1 web.2 id).1 * (sizeS l web.1 web.2 id).2)) id k l (l.length : Int) 0 (i64.wrap ((sizeS l web.1 web.2 id).1 * (sizeS l web.1 web.2 id).2)) = _ from hr]
  rfl
 ·rw [h1 h, if_pos h]
  show (bif (errS l web.1 web.2 id != 0) then _ else _) = _
  rw [bne_iff_ne.2 h]; rfl
theorem fam_Rest_v (k : Nat) (hk : 300000 ≤ k) (l : List Ro) (web : Int × Int) (id : Int) : v_u8 k l web id = restE l web.1 web.2 id := by
 unfold v_u8; rw [fam_Rest_s k hk l web id]; rfl
end Go.AM
namespace Go.AM
open Go Go.IntKind

end Go.AM
namespace Go.AM
open Go Go.Proofs Go.IntKind
set_option linter.unusedVariables false
noncomputable section
end
end Go.AM
namespace Go.AM
open Go Go.Proofs Go.IntKind
set_option linter.unusedVariables false
noncomputable section
end
end Go.AM
namespace Go.AM
open Go Go.Proofs Go.IntKind
set_option linter.unusedVariables false
noncomputable section
end
end Go.AM
namespace Go.AM
open Go Go.Proofs Go.IntKind
set_option linter.unusedVariables false
noncomputable section
end
end Go.AM
namespace Go.AM
open Go Go.Proofs Go.IntKind
set_option linter.unusedVariables false
noncomputable section
end
end Go.AM
namespace Go.AM
open Go Go.Proofs Go.IntKind
set_option linter.unusedVariables false
noncomputable section
end
end Go.AM
namespace Go.AM
open Go Go.Proofs Go.IntKind

structure PtB (p : Pt) : Prop where
 a0 : 0 ≤ p.2.1
 a1 : p.2.1 ≤ 12000
 b0 : 0 ≤ p.2.2
 b1 : p.2.2 ≤ 17179869184
end Go.AM
namespace Go.AM
open Go Go.Proofs Go.IntKind
set_option linter.unusedVariables false
noncomputable section
abbrev R_u58 : Type := T5.T
def res_u58 (r : R_u58) : AV := .agg (rvs (enc T5 r))
def bo_u58 (x_ : T3.T) (r : R_u58) : List (Nat × Blk) := []
def args_u58 (x_ : T3.T) : List AV := [.agg (rvs (enc T3 x_))]
def bin_u58 (x_ : T3.T) : List Blk := []
def f_u58 (k : Nat) (x_ : T3.T) : Option R_u58 :=
 some x_.2
def v_u58 (k : Nat) (x_ : T3.T) : R_u58 := (f_u58 k x_).getD (T5).dflt
def K_u58 (k : Nat) : Calld := ⟨fun g xs => match g with
 | _ => none, fun g xs bs => match g with
 | _ => none⟩
theorem of_u58 (k : Nat) (x_ : T3.T) (r : R_u58) (h : f_u58 k x_ = some r) : CC Tryz.prog 11 (args_u58 x_) (bin_u58 x_) (res_u58 r) (bo_u58 x_ r) := by
 refine CC.of (fn := Tryz.f11) (by kernel_rfl) (by kernel_rfl) (by kernel_rfl) (by kernel_rfl) ?_
 unfold f_u58 at h
 refine Ev.tree hm (R := Rt) (K := (K_u58 k)) (l := []) (C := []) (E := [.autoB [2] true []]) (n := 1000) (T := .leaf (res_u58 x_.2) (bo_u58 x_ x_.2)) (by kernel_rfl) ?_
 cases h; exact ⟨rfl, rfl⟩
theorem cc_u58 (k : Nat) (x_ : T3.T) (h : (f_u58 k x_).isSome = true) : CC Tryz.prog 11 (args_u58 x_) (bin_u58 x_) (res_u58 (v_u58 k x_)) (bo_u58 x_ (v_u58 k x_)) := by
 cases e : f_u58 k x_ with
 | none => rw [e] at h; cases h
 | some r => rw [show v_u58 k x_ = r by simp [v_u58, e]]; exact of_u58 k x_ r e

end
end Go.AM
namespace Go.AM
open Go Go.Proofs Go.IntKind
set_option linter.unusedVariables false
noncomputable section
abbrev R_u56 : Type := T3.T
def res_u56 (r : R_u56) : AV := .agg (rvs (enc T3 r))
def bo_u56  (r : R_u56) : List (Nat × Blk) := []
def args_u56  : List AV := []
def bin_u56  : List Blk := []
def f_u56 (k : Nat)  : Option R_u56 :=
 some (([(1, 0, 0, 10, true, [(99, 100, true)]), (2, 1, 2, 5, true, [(99, 50, true)])], (10, 100)))
def v_u56 (k : Nat)  : R_u56 := (f_u56 k ).getD (T3).dflt
def K_u56 (k : Nat) : Calld := ⟨fun g xs => match g with
 | _ => none, fun g xs bs => match g with
 | _ => none⟩
theorem of_u56 (k : Nat)  (r : R_u56) (h : f_u56 k  = some r) : CC Tryz.prog 29 (args_u56 ) (bin_u56 ) (res_u56 r) (bo_u56  r) := by
 refine CC.of (fn := Tryz.f29) (by kernel_rfl) (by kernel_rfl) (by kernel_rfl) (by kernel_rfl) ?_
 unfold f_u56 at h
 refine Ev.tree hm (R := Rt) (K := (K_u56 k)) (l := []) (C := []) (E := [.frz 0 true T3, .autoB [0] true []]) (n := 1000) (T := .leaf (res_u56 (([(1, 0, 0, 10, true, [(99, 100, true)]), (2, 1, 2, 5, true, [(99, 50, true)])], (10, 100)))) (bo_u56  (([(1, 0, 0, 10, true, [(99, 100, true)]), (2, 1, 2, 5, true, [(99, 50, true)])], (10, 100))))) (by kernel_rfl) ?_
 cases h; exact ⟨rfl, rfl⟩
theorem cc_u56 (k : Nat)  (h : (f_u56 k ).isSome = true) : CC Tryz.prog 29 (args_u56 ) (bin_u56 ) (res_u56 (v_u56 k )) (bo_u56  (v_u56 k )) := by
 cases e : f_u56 k  with
 | none => rw [e] at h; cases h
 | some r => rw [show v_u56 k  = r by simp [v_u56, e]]; exact of_u56 k  r e

end
end Go.AM
namespace Go.AM
open Go Go.Proofs Go.IntKind
set_option linter.unusedVariables false
noncomputable section
abbrev R_u53 : Type := Bool
def res_u53 (r : R_u53) : AV := .r (.v (.bool r))
def bo_u53  (r : R_u53) : List (Nat × Blk) := []
def args_u53  : List AV := []
def bin_u53  : List Blk := []
def f_u53 (k : Nat)  : Option R_u53 :=
 if ((f_u56 k ).isSome = true) then
 if ((f_u58 k (v_u56 k)).isSome = true) ∧ ((f_u10 k (v_u56 k).1 (v_u58 k (v_u56 k)) (2, 0, 0)).isSome = true) then
 if ((f_u58 k (v_u56 k)).isSome = true) ∧ ((f_u11 k (v_u56 k).1 (v_u58 k (v_u56 k)) (2, 0, 0)).isSome = true) then
 if ((f_u58 k (v_u56 k)).isSome = true) ∧ ((f_u5 k (v_u56 k).1 (v_u58 k (v_u56 k)) 2).isSome = true) then
 if ((f_u58 k (v_u56 k)).isSome = true) ∧ ((f_u8 k (v_u56 k).1 (v_u58 k (v_u56 k)) 1).isSome = true) then
 bif ((v_u10 k (v_u56 k).1 (v_u58 k (v_u56 k)) ((2 : Int), (0 : Int), (0 : Int))).2 != (0 : Int) || (v_u11 k (v_u56 k).1 (v_u58 k (v_u56 k)) ((2 : Int), (0 : Int), (0 : Int))).2 != (0 : Int) || (v_u5 k (v_u56 k).1 (v_u58 k (v_u56 k)) (2 : Int)).2 != (0 : Int) || (v_u8 k (v_u56 k).1 (v_u58 k (v_u56 k)) (1 : Int)).2 != (0 : Int)) then
 some false
 else
 bif (!eqT T4 (v_u10 k (v_u56 k).1 (v_u58 k (v_u56 k)) ((2 : Int), (0 : Int), (0 : Int))).1 ((1 : Int), (6 : Int), (99 : Int)) || (!eqT T4 (v_u11 k (v_u56 k).1 (v_u58 k (v_u56 k)) ((2 : Int), (0 : Int), (0 : Int))).1 ((0 : Int), (3 : Int), (0 : Int))) || (v_u8 k (v_u56 k).1 (v_u58 k (v_u56 k)) (1 : Int)).1 != (750 : Int)) then
 some false
 else
 if (((v_u5 k (v_u56 k).1 (v_u58 k (v_u56 k)) (2 : Int)).1.1 == (3 : Int) && (v_u5 k (v_u56 k).1 (v_u58 k (v_u56 k)) (2 : Int)).1.2.1 == (5 : Int) && (! (v_u5 k (v_u56 k).1 (v_u58 k (v_u56 k)) (2 : Int)).1.2.2.1) && (↑ (List.length (v_u5 k (v_u56 k).1 (v_u58 k (v_u56 k)) (2 : Int)).1.2.2.2) : Int) == (1 : Int)) = true → (0 : Int) ≤ (0 : Int)) ∧ (((v_u5 k (v_u56 k).1 (v_u58 k (v_u56 k)) (2 : Int)).1.1 == (3 : Int) && (v_u5 k (v_u56 k).1 (v_u58 k (v_u56 k)) (2 : Int)).1.2.1 == (5 : Int) && (! (v_u5 k (v_u56 k).1 (v_u58 k (v_u56 k)) (2 : Int)).1.2.2.1) && (↑ (List.length (v_u5 k (v_u56 k).1 (v_u58 k (v_u56 k)) (2 : Int)).1.2.2.2) : Int) == (1 : Int)) = true → (0 : Int) < (↑ (List.length (v_u5 k (v_u56 k).1 (v_u58 k (v_u56 k)) (2 : Int)).1.2.2.2) : Int)) then
 some ((v_u5 k (v_u56 k).1 (v_u58 k (v_u56 k)) 2).1.1 == 3 && (v_u5 k (v_u56 k).1 (v_u58 k (v_u56 k)) 2).1.2.1 == 5 && (! (v_u5 k (v_u56 k).1 (v_u58 k (v_u56 k)) 2).1.2.2.1) && (↑ (List.length (v_u5 k (v_u56 k).1 (v_u58 k (v_u56 k)) 2).1.2.2.2) : Int) == 1 && eqT T0 (List.getD (v_u5 k (v_u56 k).1 (v_u58 k (v_u56 k)) 2).1.2.2.2 (Int.toNat 0) T0.dflt) (0, 50, false))
 else none
 else none
 else none
 else none
 else none
 else none
def v_u53 (k : Nat)  : R_u53 := (f_u53 k ).getD false
def K_u53 (k : Nat) : Calld := ⟨fun g xs => match g with
 | 16 => match xs with
  | [_, _, _] => some [false, false, false]
  | _ => none
 | 10 => match xs with
  | [_, _, _] => some [false, false, false]
  | _ => none
 | 14 => match xs with
  | [_, _, _] => some [false, false, false]
  | _ => none
 | 23 => match xs with
  | [_, _, _] => some [false, false, false]
  | _ => none
 | 11 => match xs with
  | [_] => some [false]
  | _ => none
 | 29 => match xs with
  | [] => some []
  | _ => none
 | _ => none, fun g xs bs => match g with
 | 16 => match xs, bs with
  | [.r (.ro tl__ ql_), .agg qweb_, .r (.v (.int .i64 id_))], [] => (castL tl__ T2 ql_).bind fun l_ => (decS [] T5 qweb_).bind fun web_ => some (.one (res_u5 (v_u5 k l_ web_ id_), bo_u5 l_ web_ id_ (v_u5 k l_ web_ id_)))
  | _, _ => none
 | 10 => match xs, bs with
  | [.r (.ro tl__ ql_), .agg qweb_, .agg qp_], [] => (castL tl__ T2 ql_).bind fun l_ => (decS [] T5 qweb_).bind fun web_ => (decS [] T4 qp_).bind fun p_ => some (.one (res_u10 (v_u10 k l_ web_ p_), bo_u10 l_ web_ p_ (v_u10 k l_ web_ p_)))
  | _, _ => none
 | 14 => match xs, bs with
  | [.r (.ro tl__ ql_), .agg qweb_, .agg qp_], [] => (castL tl__ T2 ql_).bind fun l_ => (decS [] T5 qweb_).bind fun web_ => (decS [] T4 qp_).bind fun p_ => some (.one (res_u11 (v_u11 k l_ web_ p_), bo_u11 l_ web_ p_ (v_u11 k l_ web_ p_)))
  | _, _ => none
 | 23 => match xs, bs with
  | [.r (.ro tl__ ql_), .agg qweb_, .r (.v (.int .i64 id_))], [] => (castL tl__ T2 ql_).bind fun l_ => (decS [] T5 qweb_).bind fun web_ => some (.one (res_u8 (v_u8 k l_ web_ id_), bo_u8 l_ web_ id_ (v_u8 k l_ web_ id_)))
  | _, _ => none
 | 11 => match xs, bs with
  | [.agg qx_], [] => (decS [] T3 qx_).bind fun x_ => some (.one (res_u58 (v_u58 k x_), bo_u58 x_ (v_u58 k x_)))
  | _, _ => none
 | 29 => match xs, bs with
  | [], [] => some (.one (res_u56 (v_u56 k ), bo_u56  (v_u56 k )))
  | _, _ => none
 | _ => none⟩
theorem of_u53 (k : Nat)  (r : R_u53) (h : f_u53 k  = some r) : CC Tryz.prog 9 (args_u53 ) (bin_u53 ) (res_u53 r) (bo_u53  r) := by
 refine CC.of (fn := Tryz.f9) (by kernel_rfl) (by kernel_rfl) (by kernel_rfl) (by kernel_rfl) ?_
 unfold f_u53 at h
 refine Ev.tree hm (R := Rt) (K := (K_u53 k)) (l := []) (C := []) (E := [.autoB [0] true []]) (n := 1000) (T := .need [CC Tryz.prog 29 (args_u56 ) (bin_u56 ) (res_u56 (v_u56 k )) (bo_u56  (v_u56 k ))] (.need [CC Tryz.prog 11 (args_u58 (v_u56 k)) (bin_u58 (v_u56 k)) (res_u58 (v_u58 k (v_u56 k))) (bo_u58 (v_u56 k) (v_u58 k (v_u56 k))), CC Tryz.prog 10 (args_u10 (v_u56 k).1 (v_u58 k (v_u56 k)) (2, 0, 0)) (bin_u10 (v_u56 k).1 (v_u58 k (v_u56 k)) (2, 0, 0)) (res_u10 (v_u10 k (v_u56 k).1 (v_u58 k (v_u56 k)) (2, 0, 0))) (bo_u10 (v_u56 k).1 (v_u58 k (v_u56 k)) (2, 0, 0) (v_u10 k (v_u56 k).1 (v_u58 k (v_u56 k)) (2, 0, 0)))] (.need [CC Tryz.prog 11 (args_u58 (v_u56 k)) (bin_u58 (v_u56 k)) (res_u58 (v_u58 k (v_u56 k))) (bo_u58 (v_u56 k) (v_u58 k (v_u56 k))), CC Tryz.prog 14 (args_u11 (v_u56 k).1 (v_u58 k (v_u56 k)) (2, 0, 0)) (bin_u11 (v_u56 k).1 (v_u58 k (v_u56 k)) (2, 0, 0)) (res_u11 (v_u11 k (v_u56 k).1 (v_u58 k (v_u56 k)) (2, 0, 0))) (bo_u11 (v_u56 k).1 (v_u58 k (v_u56 k)) (2, 0, 0) (v_u11 k (v_u56 k).1 (v_u58 k (v_u56 k)) (2, 0, 0)))] (.need [CC Tryz.prog 11 (args_u58 (v_u56 k)) (bin_u58 (v_u56 k)) (res_u58 (v_u58 k (v_u56 k))) (bo_u58 (v_u56 k) (v_u58 k (v_u56 k))), CC Tryz.prog 16 (args_u5 (v_u56 k).1 (v_u58 k (v_u56 k)) 2) (bin_u5 (v_u56 k).1 (v_u58 k (v_u56 k)) 2) (res_u5 (v_u5 k (v_u56 k).1 (v_u58 k (v_u56 k)) 2)) (bo_u5 (v_u56 k).1 (v_u58 k (v_u56 k)) 2 (v_u5 k (v_u56 k).1 (v_u58 k (v_u56 k)) 2))] (.need [CC Tryz.prog 11 (args_u58 (v_u56 k)) (bin_u58 (v_u56 k)) (res_u58 (v_u58 k (v_u56 k))) (bo_u58 (v_u56 k) (v_u58 k (v_u56 k))), CC Tryz.prog 23 (args_u8 (v_u56 k).1 (v_u58 k (v_u56 k)) 1) (bin_u8 (v_u56 k).1 (v_u58 k (v_u56 k)) 1) (res_u8 (v_u8 k (v_u56 k).1 (v_u58 k (v_u56 k)) 1)) (bo_u8 (v_u56 k).1 (v_u58 k (v_u56 k)) 1 (v_u8 k (v_u56 k).1 (v_u58 k (v_u56 k)) 1))] (.test (((v_u10 k (v_u56 k).1 (v_u58 k (v_u56 k)) ((2 : Int), (0 : Int), (0 : Int))).2 != (0 : Int) || (v_u11 k (v_u56 k).1 (v_u58 k (v_u56 k)) ((2 : Int), (0 : Int), (0 : Int))).2 != (0 : Int) || (v_u5 k (v_u56 k).1 (v_u58 k (v_u56 k)) (2 : Int)).2 != (0 : Int) || (v_u8 k (v_u56 k).1 (v_u58 k (v_u56 k)) (1 : Int)).2 != (0 : Int))) (.leaf (res_u53 false) (bo_u53  false)) (.test ((!eqT T4 (v_u10 k (v_u56 k).1 (v_u58 k (v_u56 k)) ((2 : Int), (0 : Int), (0 : Int))).1 ((1 : Int), (6 : Int), (99 : Int)) || (!eqT T4 (v_u11 k (v_u56 k).1 (v_u58 k (v_u56 k)) ((2 : Int), (0 : Int), (0 : Int))).1 ((0 : Int), (3 : Int), (0 : Int))) || (v_u8 k (v_u56 k).1 (v_u58 k (v_u56 k)) (1 : Int)).1 != (750 : Int))) (.leaf (res_u53 false) (bo_u53  false)) (.need [((v_u5 k (v_u56 k).1 (v_u58 k (v_u56 k)) (2 : Int)).1.1 == (3 : Int) && (v_u5 k (v_u56 k).1 (v_u58 k (v_u56 k)) (2 : Int)).1.2.1 == (5 : Int) && (! (v_u5 k (v_u56 k).1 (v_u58 k (v_u56 k)) (2 : Int)).1.2.2.1) && (↑ (List.length (v_u5 k (v_u56 k).1 (v_u58 k (v_u56 k)) (2 : Int)).1.2.2.2) : Int) == (1 : Int)) = true → (0 : Int) ≤ (0 : Int), ((v_u5 k (v_u56 k).1 (v_u58 k (v_u56 k)) (2 : Int)).1.1 == (3 : Int) && (v_u5 k (v_u56 k).1 (v_u58 k (v_u56 k)) (2 : Int)).1.2.1 == (5 : Int) && (! (v_u5 k (v_u56 k).1 (v_u58 k (v_u56 k)) (2 : Int)).1.2.2.1) && (↑ (List.length (v_u5 k (v_u56 k).1 (v_u58 k (v_u56 k)) (2 : Int)).1.2.2.2) : Int) == (1 : Int)) = true → (0 : Int) < (↑ (List.length (v_u5 k (v_u56 k).1 (v_u58 k (v_u56 k)) (2 : Int)).1.2.2.2) : Int)] (.leaf (res_u53 ((v_u5 k (v_u56 k).1 (v_u58 k (v_u56 k)) 2).1.1 == 3 && (v_u5 k (v_u56 k).1 (v_u58 k (v_u56 k)) 2).1.2.1 == 5 && (! (v_u5 k (v_u56 k).1 (v_u58 k (v_u56 k)) 2).1.2.2.1) && (↑ (List.length (v_u5 k (v_u56 k).1 (v_u58 k (v_u56 k)) 2).1.2.2.2) : Int) == 1 && eqT T0 (List.getD (v_u5 k (v_u56 k).1 (v_u58 k (v_u56 k)) 2).1.2.2.2 (Int.toNat 0) T0.dflt) (0, 50, false))) (bo_u53  ((v_u5 k (v_u56 k).1 (v_u58 k (v_u56 k)) 2).1.1 == 3 && (v_u5 k (v_u56 k).1 (v_u58 k (v_u56 k)) 2).1.2.1 == 5 && (! (v_u5 k (v_u56 k).1 (v_u58 k (v_u56 k)) 2).1.2.2.1) && (↑ (List.length (v_u5 k (v_u56 k).1 (v_u58 k (v_u56 k)) 2).1.2.2.2) : Int) == 1 && eqT T0 (List.getD (v_u5 k (v_u56 k).1 (v_u58 k (v_u56 k)) 2).1.2.2.2 (Int.toNat 0) T0.dflt) (0, 50, false)))))))))))) (by kernel_rfl) ?_
 by_cases q : ((f_u56 k ).isSome = true)
 ·rw [if_pos q] at h
  refine ⟨(conjC (cc_u56 k  q) conj0), ?_⟩
  by_cases q : ((f_u58 k (v_u56 k)).isSome = true) ∧ ((f_u10 k (v_u56 k).1 (v_u58 k (v_u56 k)) (2, 0, 0)).isSome = true)
  ·rw [if_pos q] at h
   refine ⟨(conjC (cc_u58 k (v_u56 k) q.1) (conjC (cc_u10 k (v_u56 k).1 (v_u58 k (v_u56 k)) (2, 0, 0) q.2) conj0)), ?_⟩
   by_cases q : ((f_u58 k (v_u56 k)).isSome = true) ∧ ((f_u11 k (v_u56 k).1 (v_u58 k (v_u56 k)) (2, 0, 0)).isSome = true)
   ·rw [if_pos q] at h
    refine ⟨(conjC (cc_u58 k (v_u56 k) q.1) (conjC (cc_u11 k (v_u56 k).1 (v_u58 k (v_u56 k)) (2, 0, 0) q.2) conj0)), ?_⟩
    by_cases q : ((f_u58 k (v_u56 k)).isSome = true) ∧ ((f_u5 k (v_u56 k).1 (v_u58 k (v_u56 k)) 2).isSome = true)
    ·rw [if_pos q] at h
     refine ⟨(conjC (cc_u58 k (v_u56 k) q.1) (conjC (cc_u5 k (v_u56 k).1 (v_u58 k (v_u56 k)) 2 q.2) conj0)), ?_⟩
     by_cases q : ((f_u58 k (v_u56 k)).isSome = true) ∧ ((f_u8 k (v_u56 k).1 (v_u58 k (v_u56 k)) 1).isSome = true)
     ·rw [if_pos q] at h
      refine ⟨(conjC (cc_u58 k (v_u56 k) q.1) (conjC (cc_u8 k (v_u56 k).1 (v_u58 k (v_u56 k)) 1 q.2) conj0)), ?_⟩
      refine ⟨fun c => ?_, fun c => ?_⟩
      ·rw [cond_t (show (((v_u10 k (v_u56 k).1 (v_u58 k (v_u56 k)) ((2 : Int), (0 : Int), (0 : Int))).2 != (0 : Int) || (v_u11 k (v_u56 k).1 (v_u58 k (v_u56 k)) ((2 : Int), (0 : Int), (0 : Int))).2 != (0 : Int) || (v_u5 k (v_u56 k).1 (v_u58 k (v_u56 k)) (2 : Int)).2 != (0 : Int) || (v_u8 k (v_u56 k).1 (v_u58 k (v_u56 k)) (1 : Int)).2 != (0 : Int))) = true from c)] at h
       cases h; exact ⟨rfl, rfl⟩
      ·rw [cond_f (show (((v_u10 k (v_u56 k).1 (v_u58 k (v_u56 k)) ((2 : Int), (0 : Int), (0 : Int))).2 != (0 : Int) || (v_u11 k (v_u56 k).1 (v_u58 k (v_u56 k)) ((2 : Int), (0 : Int), (0 : Int))).2 != (0 : Int) || (v_u5 k (v_u56 k).1 (v_u58 k (v_u56 k)) (2 : Int)).2 != (0 : Int) || (v_u8 k (v_u56 k).1 (v_u58 k (v_u56 k)) (1 : Int)).2 != (0 : Int))) = false from c)] at h
       refine ⟨fun c => ?_, fun c => ?_⟩
       ·rw [cond_t (show ((!eqT T4 (v_u10 k (v_u56 k).1 (v_u58 k (v_u56 k)) ((2 : Int), (0 : Int), (0 : Int))).1 ((1 : Int), (6 : Int), (99 : Int)) || (!eqT T4 (v_u11 k (v_u56 k).1 (v_u58 k (v_u56 k)) ((2 : Int), (0 : Int), (0 : Int))).1 ((0 : Int), (3 : Int), (0 : Int))) || (v_u8 k (v_u56 k).1 (v_u58 k (v_u56 k)) (1 : Int)).1 != (750 : Int))) = true from c)] at h
        cases h; exact ⟨rfl, rfl⟩
       ·rw [cond_f (show ((!eqT T4 (v_u10 k (v_u56 k).1 (v_u58 k (v_u56 k)) ((2 : Int), (0 : Int), (0 : Int))).1 ((1 : Int), (6 : Int), (99 : Int)) || (!eqT T4 (v_u11 k (v_u56 k).1 (v_u58 k (v_u56 k)) ((2 : Int), (0 : Int), (0 : Int))).1 ((0 : Int), (3 : Int), (0 : Int))) || (v_u8 k (v_u56 k).1 (v_u58 k (v_u56 k)) (1 : Int)).1 != (750 : Int))) = false from c)] at h
        by_cases q : (((v_u5 k (v_u56 k).1 (v_u58 k (v_u56 k)) (2 : Int)).1.1 == (3 : Int) && (v_u5 k (v_u56 k).1 (v_u58 k (v_u56 k)) (2 : Int)).1.2.1 == (5 : Int) && (! (v_u5 k (v_u56 k).1 (v_u58 k (v_u56 k)) (2 : Int)).1.2.2.1) && (↑ (List.length (v_u5 k (v_u56 k).1 (v_u58 k (v_u56 k)) (2 : Int)).1.2.2.2) : Int) == (1 : Int)) = true → (0 : Int) ≤ (0 : Int)) ∧ (((v_u5 k (v_u56 k).1 (v_u58 k (v_u56 k)) (2 : Int)).1.1 == (3 : Int) && (v_u5 k (v_u56 k).1 (v_u58 k (v_u56 k)) (2 : Int)).1.2.1 == (5 : Int) && (! (v_u5 k (v_u56 k).1 (v_u58 k (v_u56 k)) (2 : Int)).1.2.2.1) && (↑ (List.length (v_u5 k (v_u56 k).1 (v_u58 k (v_u56 k)) (2 : Int)).1.2.2.2) : Int) == (1 : Int)) = true → (0 : Int) < (↑ (List.length (v_u5 k (v_u56 k).1 (v_u58 k (v_u56 k)) (2 : Int)).1.2.2.2) : Int))
        ·rw [if_pos q] at h
         refine ⟨(conjC q.1 (conjC q.2 conj0)), ?_⟩
         cases h; exact ⟨rfl, rfl⟩
        ·rw [if_neg q] at h; cases h
     ·rw [if_neg q] at h; cases h
    ·rw [if_neg q] at h; cases h
   ·rw [if_neg q] at h; cases h
  ·rw [if_neg q] at h; cases h
 ·rw [if_neg q] at h; cases h
theorem cc_u53 (k : Nat)  (h : (f_u53 k ).isSome = true) : CC Tryz.prog 9 (args_u53 ) (bin_u53 ) (res_u53 (v_u53 k )) (bo_u53  (v_u53 k )) := by
 cases e : f_u53 k  with
 | none => rw [e] at h; cases h
 | some r => rw [show v_u53 k  = r by simp [v_u53, e]]; exact of_u53 k  r e

end
end Go.AM
namespace Go.AM
open Go Go.Proofs Go.IntKind
set_option linter.unusedVariables false
noncomputable section
end
end Go.AM
namespace Go.AM
open Go Go.Proofs Go.IntKind
set_option linter.unusedVariables false
noncomputable section
abbrev R_u55 : Type := Bool
def res_u55 (r : R_u55) : AV := .r (.v (.bool r))
def bo_u55 (x_ : T3.T) (r : R_u55) : List (Nat × Blk) := []
def args_u55 (x_ : T3.T) : List AV := [.agg (rvs (enc T3 x_))]
def bin_u55 (x_ : T3.T) : List Blk := []
def st_u55_4 (y0 : List (T2).T) (y1 : Int) (y2 : Int) : St := ⟨mkS 22 [(10, .r (.ro T2 y0)), (11, .r (.v (.int .i64 y1))), (12, .r (.v (.int .i64 y2)))], []⟩
def f_u55_4 (k : Nat) : Nat → List (T2).T → Int → Int → Option R_u55
 | 0, _, _, _ => none
 | j + 1, y0, y1, y2 =>
 bif (decide (y2 < y1)) then
 if (0 ≤ y2) ∧ (y2 < (↑y0.length : Int)) then
 bif (decide ((↑ (List.length (y0.getD y2.toNat T2.dflt).2.2.2.2.2) : Int) > (20 : Int))) then
 some true
 else
 f_u55_4 k j y0 y1 ((i64.wrap (y2 + 1)))
 else none
 else
 some false
def f_u55 (k : Nat) (x_ : T3.T) : Option R_u55 :=
 bif (decide ((↑ (List.length x_.1) : Int) > (30 : Int))) then
 some true
 else
 f_u55_4 k k x_.1 ((↑ (List.length x_.1) : Int)) 0
def v_u55 (k : Nat) (x_ : T3.T) : R_u55 := (f_u55 k x_).getD false
def K_u55 (k : Nat) : Calld := ⟨fun g xs => match g with
 | _ => none, fun g xs bs => match g with
 | _ => none⟩
theorem ev_u55 (k : Nat) (x_ : T3.T) : ∀ j, (∀ (y0 : List (T2).T) (y1 : Int) (y2 : Int) (r : R_u55), f_u55_4 k j y0 y1 y2 = some r → Ev Tryz.prog Tryz.f8 0 (placeAt Tryz.f8 4) (st_u55_4 y0 y1 y2) (res_u55 r) (bo_u55 x_ r))
 | 0 => by
  intros; rename_i h; simp [f_u55_4] at h
 | j + 1 => by
  have ih := ev_u55 k x_ j
  ·intro y0 y1 y2 r h
   rw [f_u55_4] at h
   refine Ev.tree hm (R := Rt) (K := (K_u55 k)) (l := []) (C := [(4, [.autoB [10, 11, 12] false []])]) (E := [.autoB [2] true []]) (n := 1000) (T := .test ((decide (y2 < y1))) (.need [0 ≤ y2, y2 < (↑y0.length : Int)] (.test ((decide ((↑ (List.length (y0.getD y2.toNat T2.dflt).2.2.2.2.2) : Int) > (20 : Int)))) (.leaf (res_u55 true) (bo_u55 x_ true)) (.cut 4 (placeAt Tryz.f8 4) (st_u55_4 y0 y1 ((i64.wrap (y2 + 1))))))) (.leaf (res_u55 false) (bo_u55 x_ false))) (by kernel_rfl) ?_
   refine ⟨fun c => ?_, fun c => ?_⟩
   ·rw [cond_t (show ((decide (y2 < y1))) = true from c)] at h
    by_cases q : (0 ≤ y2) ∧ (y2 < (↑y0.length : Int))
    ·rw [if_pos q] at h
     refine ⟨(conjC q.1 (conjC q.2 conj0)), ?_⟩
     refine ⟨fun c => ?_, fun c => ?_⟩
     ·rw [cond_t (show ((decide ((↑ (List.length (y0.getD y2.toNat T2.dflt).2.2.2.2.2) : Int) > (20 : Int)))) = true from c)] at h
      cases h; exact ⟨rfl, rfl⟩
     ·rw [cond_f (show ((decide ((↑ (List.length (y0.getD y2.toNat T2.dflt).2.2.2.2.2) : Int) > (20 : Int)))) = false from c)] at h
      exact ih y0 y1 ((i64.wrap (y2 + 1))) _ h
    ·rw [if_neg q] at h; cases h
   ·rw [cond_f (show ((decide (y2 < y1))) = false from c)] at h
    cases h; exact ⟨rfl, rfl⟩
theorem of_u55 (k : Nat) (x_ : T3.T) (r : R_u55) (h : f_u55 k x_ = some r) : CC Tryz.prog 8 (args_u55 x_) (bin_u55 x_) (res_u55 r) (bo_u55 x_ r) := by
 refine CC.of (fn := Tryz.f8) (by kernel_rfl) (by kernel_rfl) (by kernel_rfl) (by kernel_rfl) ?_
 unfold f_u55 at h
 refine Ev.tree hm (R := Rt) (K := (K_u55 k)) (l := []) (C := [(4, [.autoB [10, 11, 12] false []])]) (E := [.autoB [2] true []]) (n := 1000) (T := .test ((decide ((↑ (List.length x_.1) : Int) > (30 : Int)))) (.leaf (res_u55 true) (bo_u55 x_ true)) (.cut 4 (placeAt Tryz.f8 4) (st_u55_4 x_.1 ((↑ (List.length x_.1) : Int)) 0))) (by kernel_rfl) ?_
 refine ⟨fun c => ?_, fun c => ?_⟩
 ·rw [cond_t (show ((decide ((↑ (List.length x_.1) : Int) > (30 : Int)))) = true from c)] at h
  cases h; exact ⟨rfl, rfl⟩
 ·rw [cond_f (show ((decide ((↑ (List.length x_.1) : Int) > (30 : Int)))) = false from c)] at h
  exact (ev_u55 k x_ k) x_.1 ((↑ (List.length x_.1) : Int)) 0 _ h
theorem cc_u55 (k : Nat) (x_ : T3.T) (h : (f_u55 k x_).isSome = true) : CC Tryz.prog 8 (args_u55 x_) (bin_u55 x_) (res_u55 (v_u55 k x_)) (bo_u55 x_ (v_u55 k x_)) := by
 cases e : f_u55 k x_ with
 | none => rw [e] at h; cases h
 | some r => rw [show v_u55 k x_ = r by simp [v_u55, e]]; exact of_u55 k x_ r e

end
end Go.AM
namespace Go.AM
open Go Go.Proofs Go.IntKind
set_option linter.unusedVariables false
noncomputable section
abbrev R_u57 : Type := T6.T
def res_u57 (r : R_u57) : AV := .agg (rvs (enc T6 r))
def bo_u57 (x_ : T3.T) (r : R_u57) : List (Nat × Blk) := []
def args_u57 (x_ : T3.T) : List AV := [.agg (rvs (enc T3 x_))]
def bin_u57 (x_ : T3.T) : List Blk := []
def f_u57 (k : Nat) (x_ : T3.T) : Option R_u57 :=
 some x_.2
def v_u57 (k : Nat) (x_ : T3.T) : R_u57 := (f_u57 k x_).getD (T6).dflt
def K_u57 (k : Nat) : Calld := ⟨fun g xs => match g with
 | _ => none, fun g xs bs => match g with
 | _ => none⟩
theorem of_u57 (k : Nat) (x_ : T3.T) (r : R_u57) (h : f_u57 k x_ = some r) : CC Tryz.prog 13 (args_u57 x_) (bin_u57 x_) (res_u57 r) (bo_u57 x_ r) := by
 refine CC.of (fn := Tryz.f13) (by kernel_rfl) (by kernel_rfl) (by kernel_rfl) (by kernel_rfl) ?_
 unfold f_u57 at h
 refine Ev.tree hm (R := Rt) (K := (K_u57 k)) (l := []) (C := []) (E := [.autoB [2] true []]) (n := 1000) (T := .leaf (res_u57 x_.2) (bo_u57 x_ x_.2)) (by kernel_rfl) ?_
 cases h; exact ⟨rfl, rfl⟩
theorem cc_u57 (k : Nat) (x_ : T3.T) (h : (f_u57 k x_).isSome = true) : CC Tryz.prog 13 (args_u57 x_) (bin_u57 x_) (res_u57 (v_u57 k x_)) (bo_u57 x_ (v_u57 k x_)) := by
 cases e : f_u57 k x_ with
 | none => rw [e] at h; cases h
 | some r => rw [show v_u57 k x_ = r by simp [v_u57, e]]; exact of_u57 k x_ r e

end
end Go.AM
namespace Go.AM
open Go Go.Proofs Go.IntKind
set_option linter.unusedVariables false
noncomputable section
abbrev R_u54 : Type := Bool
def res_u54 (r : R_u54) : AV := .r (.v (.bool r))
def bo_u54 (a_ : T1.T) (b_ : T1.T) (r : R_u54) : List (Nat × Blk) := []
def args_u54 (a_ : T1.T) (b_ : T1.T) : List AV := [.agg (rvs (enc T1 a_)), .agg (rvs (enc T1 b_))]
def bin_u54 (a_ : T1.T) (b_ : T1.T) : List Blk := []
def st_u54_4 (y0 : Int) (y1 : Int) (y2 : T1.T) (y3 : T1.T) : St := ⟨mkS 52 [(2, .ptr 1000000 0 0), (3, .ptr 1000001 0 0), (36, .r (.v (.int .i64 y0))), (37, .r (.v (.int .i64 y1)))], [(1000000, 0, .var 41 (rvs (enc T1 y2))), (1000001, 0, .var 41 (rvs (enc T1 y3)))]⟩
def f_u54_4 (k : Nat) : Nat → Int → Int → T1.T → T1.T → Option R_u54
 | 0, _, _, _, _ => none
 | j + 1, y0, y1, y2, y3 =>
 bif (decide (y1 < y0)) then
 if (0 ≤ y1) ∧ (y1 < (↑ (List.length y2.2.2.2) : Int)) ∧ (0 ≤ y1) ∧ (y1 < (↑ (List.length y3.2.2.2) : Int)) then
 bif (!eqT T0 (List.getD y2.2.2.2 y1.toNat T0.dflt) (List.getD y3.2.2.2 y1.toNat T0.dflt)) then
 some false
 else
 f_u54_4 k j y0 ((i64.wrap (y1 + 1))) y2 y3
 else none
 else
 some true
def f_u54 (k : Nat) (a_ : T1.T) (b_ : T1.T) : Option R_u54 :=
 bif (a_.1 != b_.1 || a_.2.1 != b_.2.1 || (!a_.2.2.1 == b_.2.2.1) || (↑ (List.length a_.2.2.2) : Int) != (↑ (List.length b_.2.2.2) : Int)) then
 some false
 else
 f_u54_4 k k ((↑ (List.length a_.2.2.2) : Int)) 0 a_ b_
def v_u54 (k : Nat) (a_ : T1.T) (b_ : T1.T) : R_u54 := (f_u54 k a_ b_).getD false
def K_u54 (k : Nat) : Calld := ⟨fun g xs => match g with
 | _ => none, fun g xs bs => match g with
 | _ => none⟩
theorem ev_u54 (k : Nat) (a_ : T1.T) (b_ : T1.T) : ∀ j, (∀ (y0 : Int) (y1 : Int) (y2 : T1.T) (y3 : T1.T) (r : R_u54), f_u54_4 k j y0 y1 y2 y3 = some r → Ev Tryz.prog Tryz.f18 0 (placeAt Tryz.f18 4) (st_u54_4 y0 y1 y2 y3) (res_u54 r) (bo_u54 a_ b_ r))
 | 0 => by
  intros; rename_i h; simp [f_u54_4] at h
 | j + 1 => by
  have ih := ev_u54 k a_ b_ j
  ·intro y0 y1 y2 y3 r h
   rw [f_u54_4] at h
   refine Ev.tree hm (R := Rt) (K := (K_u54 k)) (l := []) (C := [(4, [.autoB [2, 3, 36, 37] false []])]) (E := [.autoB [4] true []]) (n := 1000) (T := .test ((decide (y1 < y0))) (.need [0 ≤ y1, y1 < (↑ (List.length y2.2.2.2) : Int), 0 ≤ y1, y1 < (↑ (List.length y3.2.2.2) : Int)] (.test ((!eqT T0 (List.getD y2.2.2.2 y1.toNat T0.dflt) (List.getD y3.2.2.2 y1.toNat T0.dflt))) (.leaf (res_u54 false) (bo_u54 a_ b_ false)) (.cut 4 (placeAt Tryz.f18 4) (st_u54_4 y0 ((i64.wrap (y1 + 1))) y2 y3)))) (.leaf (res_u54 true) (bo_u54 a_ b_ true))) (by kernel_rfl) ?_
   refine ⟨fun c => ?_, fun c => ?_⟩
   ·rw [cond_t (show ((decide (y1 < y0))) = true from c)] at h
    by_cases q : (0 ≤ y1) ∧ (y1 < (↑ (List.length y2.2.2.2) : Int)) ∧ (0 ≤ y1) ∧ (y1 < (↑ (List.length y3.2.2.2) : Int))
    ·rw [if_pos q] at h
     refine ⟨(conjC q.1 (conjC q.2.1 (conjC q.2.2.1 (conjC q.2.2.2 conj0)))), ?_⟩
     refine ⟨fun c => ?_, fun c => ?_⟩
     ·rw [cond_t (show ((!eqT T0 (List.getD y2.2.2.2 y1.toNat T0.dflt) (List.getD y3.2.2.2 y1.toNat T0.dflt))) = true from c)] at h
      cases h; exact ⟨rfl, rfl⟩
     ·rw [cond_f (show ((!eqT T0 (List.getD y2.2.2.2 y1.toNat T0.dflt) (List.getD y3.2.2.2 y1.toNat T0.dflt))) = false from c)] at h
      exact ih y0 ((i64.wrap (y1 + 1))) y2 y3 _ h
    ·rw [if_neg q] at h; cases h
   ·rw [cond_f (show ((decide (y1 < y0))) = false from c)] at h
    cases h; exact ⟨rfl, rfl⟩
theorem of_u54 (k : Nat) (a_ : T1.T) (b_ : T1.T) (r : R_u54) (h : f_u54 k a_ b_ = some r) : CC Tryz.prog 18 (args_u54 a_ b_) (bin_u54 a_ b_) (res_u54 r) (bo_u54 a_ b_ r) := by
 refine CC.of (fn := Tryz.f18) (by kernel_rfl) (by kernel_rfl) (by kernel_rfl) (by kernel_rfl) ?_
 unfold f_u54 at h
 refine Ev.tree hm (R := Rt) (K := (K_u54 k)) (l := []) (C := [(4, [.autoB [2, 3, 36, 37] false []])]) (E := [.autoB [4] true []]) (n := 1000) (T := .test ((a_.1 != b_.1 || a_.2.1 != b_.2.1 || (!a_.2.2.1 == b_.2.2.1) || (↑ (List.length a_.2.2.2) : Int) != (↑ (List.length b_.2.2.2) : Int))) (.leaf (res_u54 false) (bo_u54 a_ b_ false)) (.cut 4 (placeAt Tryz.f18 4) (st_u54_4 ((↑ (List.length a_.2.2.2) : Int)) 0 a_ b_))) (by kernel_rfl) ?_
 refine ⟨fun c => ?_, fun c => ?_⟩
 ·rw [cond_t (show ((a_.1 != b_.1 || a_.2.1 != b_.2.1 || (!a_.2.2.1 == b_.2.2.1) || (↑ (List.length a_.2.2.2) : Int) != (↑ (List.length b_.2.2.2) : Int))) = true from c)] at h
  cases h; exact ⟨rfl, rfl⟩
 ·rw [cond_f (show ((a_.1 != b_.1 || a_.2.1 != b_.2.1 || (!a_.2.2.1 == b_.2.2.1) || (↑ (List.length a_.2.2.2) : Int) != (↑ (List.length b_.2.2.2) : Int))) = false from c)] at h
  exact (ev_u54 k a_ b_ k) ((↑ (List.length a_.2.2.2) : Int)) 0 a_ b_ _ h
theorem cc_u54 (k : Nat) (a_ : T1.T) (b_ : T1.T) (h : (f_u54 k a_ b_).isSome = true) : CC Tryz.prog 18 (args_u54 a_ b_) (bin_u54 a_ b_) (res_u54 (v_u54 k a_ b_)) (bo_u54 a_ b_ (v_u54 k a_ b_)) := by
 cases e : f_u54 k a_ b_ with
 | none => rw [e] at h; cases h
 | some r => rw [show v_u54 k a_ b_ = r by simp [v_u54, e]]; exact of_u54 k a_ b_ r e

end
end Go.AM
namespace Go.AM
open Go Go.Proofs Go.IntKind
set_option linter.unusedVariables false
noncomputable section
abbrev R_u49 : Type := Bool
def res_u49 (r : R_u49) : AV := .r (.v (.bool r))
def bo_u49 (x_ : T3.T) (id_ : Int) (r : R_u49) : List (Nat × Blk) := []
def args_u49 (x_ : T3.T) (id_ : Int) : List AV := [.agg (rvs (enc T3 x_)), .r (.v (.int .i64 id_))]
def bin_u49 (x_ : T3.T) (id_ : Int) : List Blk := []
def f_u49 (k : Nat) (x_ : T3.T) (id_ : Int) : Option R_u49 :=
 if ((f_u55 k x_).isSome = true) then
 bif (v_u55 k x_) then
 if ((f_u53 k ).isSome = true) then
 some (v_u53 k)
 else none
 else
 if ((f_u58 k x_).isSome = true) ∧ ((f_u5 k x_.1 (v_u58 k x_) id_).isSome = true) then
 if ((f_u57 k x_).isSome = true) ∧ ((f_u80 k x_.1 (v_u57 k x_) id_).isSome = true) then
 bif ((v_u5 k x_.1 (v_u58 k x_) id_).2 == (v_u80 k x_.1 (v_u57 k x_) id_).2) then
 bif (true && v_u54 k (v_u5 k x_.1 (v_u58 k x_) id_).1 (v_u80 k x_.1 (v_u57 k x_) id_).1) then
 if (((v_u5 k x_.1 (v_u58 k x_) id_).2 == (v_u80 k x_.1 (v_u57 k x_) id_).2) = true) ∧ ((f_u54 k (v_u5 k x_.1 (v_u58 k x_) id_).1 (v_u80 k x_.1 (v_u57 k x_) id_).1).isSome = true) ∧ ((true && v_u54 k (v_u5 k x_.1 (v_u58 k x_) id_).1 (v_u80 k x_.1 (v_u57 k x_) id_).1) = true) ∧ ((f_u53 k ).isSome = true) then
 some (true && v_u53 k)
 else none
 else
 if (((v_u5 k x_.1 (v_u58 k x_) id_).2 == (v_u80 k x_.1 (v_u57 k x_) id_).2) = true) ∧ ((f_u54 k (v_u5 k x_.1 (v_u58 k x_) id_).1 (v_u80 k x_.1 (v_u57 k x_) id_).1).isSome = true) ∧ ((true && v_u54 k (v_u5 k x_.1 (v_u58 k x_) id_).1 (v_u80 k x_.1 (v_u57 k x_) id_).1) = false) then
 some false
 else none
 else
 if (((v_u5 k x_.1 (v_u58 k x_) id_).2 == (v_u80 k x_.1 (v_u57 k x_) id_).2) = false) ∧ (false = false) then
 some false
 else none
 else none
 else none
 else none
def K_u49 (k : Nat) : Calld := ⟨fun g xs => match g with
 | 16 => match xs with
  | [_, _, _] => some [false, false, false]
  | _ => none
 | 17 => match xs with
  | [_, _, _] => some [false, false, false]
  | _ => none
 | 8 => match xs with
  | [_] => some [false]
  | _ => none
 | 11 => match xs with
  | [_] => some [false]
  | _ => none
 | 9 => match xs with
  | [] => some []
  | _ => none
 | 13 => match xs with
  | [_] => some [false]
  | _ => none
 | 18 => match xs with
  | [_, _] => some [false, false]
  | _ => none
 | _ => none, fun g xs bs => match g with
 | 16 => match xs, bs with
  | [.r (.ro tl__ ql_), .agg qweb_, .r (.v (.int .i64 id_))], [] => (castL tl__ T2 ql_).bind fun l_ => (decS [] T5 qweb_).bind fun web_ => some (.one (res_u5 (v_u5 k l_ web_ id_), bo_u5 l_ web_ id_ (v_u5 k l_ web_ id_)))
  | _, _ => none
 | 17 => match xs, bs with
  | [.r (.ro tl__ ql_), .agg qweb_, .r (.v (.int .i64 id_))], [] => (castL tl__ T2 ql_).bind fun l_ => (decS [] T6 qweb_).bind fun web_ => some (.one (res_u80 (v_u80 k l_ web_ id_), bo_u80 l_ web_ id_ (v_u80 k l_ web_ id_)))
  | _, _ => none
 | 8 => match xs, bs with
  | [.agg qx_], [] => (decS [] T3 qx_).bind fun x_ => some (.one (res_u55 (v_u55 k x_), bo_u55 x_ (v_u55 k x_)))
  | _, _ => none
 | 11 => match xs, bs with
  | [.agg qx_], [] => (decS [] T3 qx_).bind fun x_ => some (.one (res_u58 (v_u58 k x_), bo_u58 x_ (v_u58 k x_)))
  | _, _ => none
 | 9 => match xs, bs with
  | [], [] => some (.one (res_u53 (v_u53 k ), bo_u53  (v_u53 k )))
  | _, _ => none
 | 13 => match xs, bs with
  | [.agg qx_], [] => (decS [] T3 qx_).bind fun x_ => some (.one (res_u57 (v_u57 k x_), bo_u57 x_ (v_u57 k x_)))
  | _, _ => none
 | 18 => match xs, bs with
  | [.agg qa_, .agg qb_], [] => (decS [] T1 qa_).bind fun a_ => (decS [] T1 qb_).bind fun b_ => some (.one (res_u54 (v_u54 k a_ b_), bo_u54 a_ b_ (v_u54 k a_ b_)))
  | _, _ => none
 | _ => none⟩
theorem of_u49 (k : Nat) (x_ : T3.T) (id_ : Int) (r : R_u49) (h : f_u49 k x_ id_ = some r) : CC Tryz.prog 4 (args_u49 x_ id_) (bin_u49 x_ id_) (res_u49 r) (bo_u49 x_ id_ r) := by
 refine CC.of (fn := Tryz.f4) (by kernel_rfl) (by kernel_rfl) (by kernel_rfl) (by kernel_rfl) ?_
 unfold f_u49 at h
 refine Ev.tree hm (R := Rt) (K := (K_u49 k)) (l := []) (C := []) (E := [.autoB [4] true []]) (n := 1000) (T := .need [CC Tryz.prog 8 (args_u55 x_) (bin_u55 x_) (res_u55 (v_u55 k x_)) (bo_u55 x_ (v_u55 k x_))] (.test ((v_u55 k x_)) (.need [CC Tryz.prog 9 (args_u53 ) (bin_u53 ) (res_u53 (v_u53 k )) (bo_u53  (v_u53 k ))] (.leaf (res_u49 (v_u53 k)) (bo_u49 x_ id_ (v_u53 k)))) (.need [CC Tryz.prog 11 (args_u58 x_) (bin_u58 x_) (res_u58 (v_u58 k x_)) (bo_u58 x_ (v_u58 k x_)), CC Tryz.prog 16 (args_u5 x_.1 (v_u58 k x_) id_) (bin_u5 x_.1 (v_u58 k x_) id_) (res_u5 (v_u5 k x_.1 (v_u58 k x_) id_)) (bo_u5 x_.1 (v_u58 k x_) id_ (v_u5 k x_.1 (v_u58 k x_) id_))] (.need [CC Tryz.prog 13 (args_u57 x_) (bin_u57 x_) (res_u57 (v_u57 k x_)) (bo_u57 x_ (v_u57 k x_)), CC Tryz.prog 17 (args_u80 x_.1 (v_u57 k x_) id_) (bin_u80 x_.1 (v_u57 k x_) id_) (res_u80 (v_u80 k x_.1 (v_u57 k x_) id_)) (bo_u80 x_.1 (v_u57 k x_) id_ (v_u80 k x_.1 (v_u57 k x_) id_))] (.test (((v_u5 k x_.1 (v_u58 k x_) id_).2 == (v_u80 k x_.1 (v_u57 k x_) id_).2)) (.test ((true && v_u54 k (v_u5 k x_.1 (v_u58 k x_) id_).1 (v_u80 k x_.1 (v_u57 k x_) id_).1)) (.need [((v_u5 k x_.1 (v_u58 k x_) id_).2 == (v_u80 k x_.1 (v_u57 k x_) id_).2) = true, CC Tryz.prog 18 (args_u54 (v_u5 k x_.1 (v_u58 k x_) id_).1 (v_u80 k x_.1 (v_u57 k x_) id_).1) (bin_u54 (v_u5 k x_.1 (v_u58 k x_) id_).1 (v_u80 k x_.1 (v_u57 k x_) id_).1) (res_u54 (v_u54 k (v_u5 k x_.1 (v_u58 k x_) id_).1 (v_u80 k x_.1 (v_u57 k x_) id_).1)) (bo_u54 (v_u5 k x_.1 (v_u58 k x_) id_).1 (v_u80 k x_.1 (v_u57 k x_) id_).1 (v_u54 k (v_u5 k x_.1 (v_u58 k x_) id_).1 (v_u80 k x_.1 (v_u57 k x_) id_).1)), (true && v_u54 k (v_u5 k x_.1 (v_u58 k x_) id_).1 (v_u80 k x_.1 (v_u57 k x_) id_).1) = true, CC Tryz.prog 9 (args_u53 ) (bin_u53 ) (res_u53 (v_u53 k )) (bo_u53  (v_u53 k ))] (.leaf (res_u49 (true && v_u53 k)) (bo_u49 x_ id_ (true && v_u53 k)))) (.need [((v_u5 k x_.1 (v_u58 k x_) id_).2 == (v_u80 k x_.1 (v_u57 k x_) id_).2) = true, CC Tryz.prog 18 (args_u54 (v_u5 k x_.1 (v_u58 k x_) id_).1 (v_u80 k x_.1 (v_u57 k x_) id_).1) (bin_u54 (v_u5 k x_.1 (v_u58 k x_) id_).1 (v_u80 k x_.1 (v_u57 k x_) id_).1) (res_u54 (v_u54 k (v_u5 k x_.1 (v_u58 k x_) id_).1 (v_u80 k x_.1 (v_u57 k x_) id_).1)) (bo_u54 (v_u5 k x_.1 (v_u58 k x_) id_).1 (v_u80 k x_.1 (v_u57 k x_) id_).1 (v_u54 k (v_u5 k x_.1 (v_u58 k x_) id_).1 (v_u80 k x_.1 (v_u57 k x_) id_).1)), (true && v_u54 k (v_u5 k x_.1 (v_u58 k x_) id_).1 (v_u80 k x_.1 (v_u57 k x_) id_).1) = false] (.leaf (res_u49 false) (bo_u49 x_ id_ false)))) (.test (false) (.need [((v_u5 k x_.1 (v_u58 k x_) id_).2 == (v_u80 k x_.1 (v_u57 k x_) id_).2) = false, false = true, CC Tryz.prog 9 (args_u53 ) (bin_u53 ) (res_u53 (v_u53 k )) (bo_u53  (v_u53 k ))] (.leaf (.r (.v (.bool ((true && v_u53 k))))) [])) (.need [((v_u5 k x_.1 (v_u58 k x_) id_).2 == (v_u80 k x_.1 (v_u57 k x_) id_).2) = false, false = false] (.leaf (res_u49 false) (bo_u49 x_ id_ false))))))))) (by kernel_rfl) ?_
 by_cases q : ((f_u55 k x_).isSome = true)
 ·rw [if_pos q] at h
  refine ⟨(conjC (cc_u55 k x_ q) conj0), ?_⟩
  refine ⟨fun c => ?_, fun c => ?_⟩
  ·rw [cond_t (show ((v_u55 k x_)) = true from c)] at h
   by_cases q : ((f_u53 k ).isSome = true)
   ·rw [if_pos q] at h
    refine ⟨(conjC (cc_u53 k  q) conj0), ?_⟩
    cases h; exact ⟨rfl, rfl⟩
   ·rw [if_neg q] at h; cases h
  ·rw [cond_f (show ((v_u55 k x_)) = false from c)] at h
   by_cases q : ((f_u58 k x_).isSome = true) ∧ ((f_u5 k x_.1 (v_u58 k x_) id_).isSome = true)
   ·rw [if_pos q] at h
    refine ⟨(conjC (cc_u58 k x_ q.1) (conjC (cc_u5 k x_.1 (v_u58 k x_) id_ q.2) conj0)), ?_⟩
    by_cases q : ((f_u57 k x_).isSome = true) ∧ ((f_u80 k x_.1 (v_u57 k x_) id_).isSome = true)
    ·rw [if_pos q] at h
     refine ⟨(conjC (cc_u57 k x_ q.1) (conjC (cc_u80 k x_.1 (v_u57 k x_) id_ q.2) conj0)), ?_⟩
     refine ⟨fun c => ?_, fun c => ?_⟩
     ·rw [cond_t (show (((v_u5 k x_.1 (v_u58 k x_) id_).2 == (v_u80 k x_.1 (v_u57 k x_) id_).2)) = true from c)] at h
      refine ⟨fun c => ?_, fun c => ?_⟩
      ·rw [cond_t (show ((true && v_u54 k (v_u5 k x_.1 (v_u58 k x_) id_).1 (v_u80 k x_.1 (v_u57 k x_) id_).1)) = true from c)] at h
       by_cases q : (((v_u5 k x_.1 (v_u58 k x_) id_).2 == (v_u80 k x_.1 (v_u57 k x_) id_).2) = true) ∧ ((f_u54 k (v_u5 k x_.1 (v_u58 k x_) id_).1 (v_u80 k x_.1 (v_u57 k x_) id_).1).isSome = true) ∧ ((true && v_u54 k (v_u5 k x_.1 (v_u58 k x_) id_).1 (v_u80 k x_.1 (v_u57 k x_) id_).1) = true) ∧ ((f_u53 k ).isSome = true)
       ·rw [if_pos q] at h
        refine ⟨(conjC q.1 (conjC (cc_u54 k (v_u5 k x_.1 (v_u58 k x_) id_).1 (v_u80 k x_.1 (v_u57 k x_) id_).1 q.2.1) (conjC q.2.2.1 (conjC (cc_u53 k  q.2.2.2) conj0)))), ?_⟩
        cases h; exact ⟨rfl, rfl⟩
       ·rw [if_neg q] at h; cases h
      ·rw [cond_f (show ((true && v_u54 k (v_u5 k x_.1 (v_u58 k x_) id_).1 (v_u80 k x_.1 (v_u57 k x_) id_).1)) = false from c)] at h
       by_cases q : (((v_u5 k x_.1 (v_u58 k x_) id_).2 == (v_u80 k x_.1 (v_u57 k x_) id_).2) = true) ∧ ((f_u54 k (v_u5 k x_.1 (v_u58 k x_) id_).1 (v_u80 k x_.1 (v_u57 k x_) id_).1).isSome = true) ∧ ((true && v_u54 k (v_u5 k x_.1 (v_u58 k x_) id_).1 (v_u80 k x_.1 (v_u57 k x_) id_).1) = false)
       ·rw [if_pos q] at h
        refine ⟨(conjC q.1 (conjC (cc_u54 k (v_u5 k x_.1 (v_u58 k x_) id_).1 (v_u80 k x_.1 (v_u57 k x_) id_).1 q.2.1) (conjC q.2.2 conj0))), ?_⟩
        cases h; exact ⟨rfl, rfl⟩
       ·rw [if_neg q] at h; cases h
     ·rw [cond_f (show (((v_u5 k x_.1 (v_u58 k x_) id_).2 == (v_u80 k x_.1 (v_u57 k x_) id_).2)) = false from c)] at h
      refine ⟨fun c => ?_, fun c => ?_⟩
      ·cases c
      by_cases q : (((v_u5 k x_.1 (v_u58 k x_) id_).2 == (v_u80 k x_.1 (v_u57 k x_) id_).2) = false) ∧ (false = false)
      ·rw [if_pos q] at h
       refine ⟨(conjC q.1 (conjC q.2 conj0)), ?_⟩
       cases h; exact ⟨rfl, rfl⟩
      ·rw [if_neg q] at h; cases h
    ·rw [if_neg q] at h; cases h
   ·rw [if_neg q] at h; cases h
 ·rw [if_neg q] at h; cases h
end
end Go.AM
namespace Go.AM
open Go Go.Proofs Go.IntKind
set_option linter.unusedVariables false
noncomputable section
end
end Go.AM
namespace Go.AM
open Go Go.Proofs Go.IntKind
set_option linter.unusedVariables false
noncomputable section
end
end Go.AM
namespace Go.AM
open Go Go.Proofs Go.IntKind
set_option linter.unusedVariables false
noncomputable section
end
end Go.AM
namespace Go.AM
open Go Go.Proofs Go.IntKind

def sm1 : Ro := (1, 0, 0, 10, true, [(99, 100, true)])
def sm2 : Ro := (2, 1, 2, 5, true, [(99, 50, true)])
def sm : List Ro := [sm1, sm2]
theorem single_one (r : Rn) (h : good r) (hc : chk [r] = 0) (hn : Nr (-1) [spn r]) : singleS [r] = true := by
 have e : nf ([r].map spn) = [spn r] := nf_self (spn_in (m := [r]) ⟨h, trivial⟩) hn
 unfold singleS
 rw [e, hc]
 have := h.lohi
 show (decide ((0 : Int) = 0) && ((hi r + 1 - lo r + 0) == r.2.1 + 0)) = true
 rw [beq_iff_eq.2 (by omega)]; rfl
theorem sm_reg : Reg sm 10 100 := by
 have h1 : singleS [(99, 100, true)] = true := single_one _ (by decide) (by decide) ⟨by decide, by decide, trivial⟩
 have h2 : singleS [(99, 50, true)] = true := single_one _ (by decide) (by decide) ⟨by decide, by decide, trivial⟩
 refine ⟨by decide, by decide, by decide, ?_⟩
 have o1 : Okp 10 100 ([] ++ [sm1]) := .snoc [] sm1 .nil ⟨by decide, by decide, .inl rfl, ⟨by decide, by decide, by decide, chk_zero.1 (by decide), by decide, h1, by decide⟩⟩ rfl rfl
 exact .snoc [sm1] sm2 o1 ⟨by decide, by decide, .inr ⟨sm1, rfl⟩, ⟨by decide, by decide, by decide, chk_zero.1 (by decide), by decide, h2, by decide⟩⟩ rfl rfl
theorem sm_err1 : errS sm 10 100 1 = 0 := errS_zero.2 ⟨sm_reg, .inr ⟨sm1, rfl⟩⟩
theorem sm_err2 : errS sm 10 100 2 = 0 := errS_zero.2 ⟨sm_reg, .inr ⟨sm2, rfl⟩⟩
theorem sm_up : upS sm 10 100 (2, 0, 0) = ((1, 6, 99), 0) := by
 unfold upS
 rw [if_neg (fun h : errS sm 10 100 2 ≠ 0 => h sm_err2)]
 rfl
theorem sm_web : webE sm 10 100 (2, 0, 0) = ((0, 3, 0), 0) := by
 have : onE sm 10 100 (2, 0, 0) = 0 := by
  unfold onE
  rw [if_neg (fun h : errS sm 10 100 2 ≠ 0 => h sm_err2)]
  rfl
 unfold webE
 rw [if_neg (fun h => h this)]
 rfl
theorem sm_cut : cutFull sm 10 100 2 = ((3, 5, false, [(0, 50, false)]), 0) := by
 unfold cutFull
 rw [if_neg (fun h : errS sm 10 100 2 ≠ 0 => h sm_err2)]
 rfl
theorem sm_rest : restE sm 10 100 1 = (750, 0) := by
 unfold restE
 rw [if_neg (fun h : errS sm 10 100 1 ≠ 0 => h sm_err1)]
 rfl
theorem awake_s (k : Nat) (hk : 301000 ≤ k) : f_u53 k = some true := by
 have hs : v_u56 k = (sm, 10, 100) := rfl
 have hw : v_u58 k (sm, 10, 100) = (10, 100) := rfl
 unfold f_u53
 rw [hs, hw]
 show (if (some (sm, (10 : Int), (100 : Int))).isSome = true then (if true = true ∧ (f_u10 k sm (10, 100) (2, 0, 0)).isSome = true then (if true = true ∧ (f_u11 k sm (10, 100) (2, 0, 0)).isSome = true then (if true = true ∧ (f_u5 k sm (10, 100) 2).isSome = true then (if true = true ∧ (f_u8 k sm (10, 100) 1).isSome = true then
  (bif ((v_u10 k sm (10, 100) (2, 0, 0)).2 != 0 || (v_u11 k sm (10, 100) (2, 0, 0)).2 != 0 || (v_u5 k sm (10, 100) 2).2 != 0 || (v_u8 k sm (10, 100) 1).2 != 0) then some false
   else bif (!eqT T4 (v_u10 k sm (10, 100) (2, 0, 0)).1 ((1 : Int), (6 : Int), (99 : Int)) || (!eqT T4 (v_u11 k sm (10, 100) (2, 0, 0)).1 ((0 : Int), (3 : Int), (0 : Int))) || (v_u8 k sm (10, 100) 1).1 != 750) then some false
   else _) else _) else _) else _) else _) else _) = _
 rw [fam_Up_s k (by omega), fam_Web_s k (by omega), fam_Cut_s k (by omega), fam_Rest_s k (by omega), fam_Up_v k (by omega), fam_Web_v k (by omega), fam_Cut_v k (by omega), fam_Rest_v k (by omega)]
 show (if (some (sm, (10 : Int), (100 : Int))).isSome = true then (if true = true ∧ (some (upS sm 10 100 (2, 0, 0))).isSome = true then (if true = true ∧ (some (webE sm 10 100 (2, 0, 0))).isSome = true then (if true = true ∧ (some (cutFull sm 10 100 2)).isSome = true then (if true = true ∧ (some (restE sm 10 100 1)).isSome = true then
  (bif ((upS sm 10 100 (2, 0, 0)).2 != 0 || (webE sm 10 100 (2, 0, 0)).2 != 0 || (cutFull sm 10 100 2).2 != 0 || (restE sm 10 100 1).2 != 0) then some false
   else bif (!eqT T4 (upS sm 10 100 (2, 0, 0)).1 ((1 : Int), (6 : Int), (99 : Int)) || (!eqT T4 (webE sm 10 100 (2, 0, 0)).1 ((0 : Int), (3 : Int), (0 : Int))) || (restE sm 10 100 1).1 != 750) then some false
   else _) else _) else _) else _) else _) else _) = _
 rw [sm_up, sm_web, sm_cut, sm_rest]
 rfl
theorem awake_v (k : Nat) (hk : 301000 ≤ k) : v_u53 k = true := by
 unfold v_u53; rw [awake_s k hk]; rfl
theorem web_v (k : Nat) (x : List Ro × Int × Int) : v_u58 k x = x.2 := rfl
theorem theirs_v (k : Nat) (x : List Ro × Int × Int) : v_u57 k x = x.2 := rfl
theorem web_s (k : Nat) (x : List Ro × Int × Int) : f_u58 k x = some x.2 := rfl
theorem theirs_s (k : Nat) (x : List Ro × Int × Int) : f_u57 k x = some x.2 := rfl
theorem great_l (k : Nat) (l : List Ro) (hl : l.length ≤ 30) : ∀ (d i j : Nat), i + d = l.length → d < j → (f_u55_4 k j l (l.length : Int) (i : Int)).isSome = true := by
 intro d
 induction d with
 | zero =>
  intro i j hi hj
  obtain ⟨j, rfl⟩ : ∃ q, j = q + 1 := ⟨j - 1, by omega⟩
  rw [f_u55_4, decide_eq_false (by omega : ¬ (i : Int) < (l.length : Int)), cond_false]; rfl
 | succ d ih =>
  intro i j hi hj
  obtain ⟨j, rfl⟩ : ∃ q, j = q + 1 := ⟨j - 1, by omega⟩
  rw [f_u55_4, decide_eq_true (by omega : (i : Int) < (l.length : Int)), cond_true, if_pos ⟨by omega, by omega⟩, wrapS i (by omega)]
  cases decide ((List.length (l.getD (i : Int).toNat T2.dflt).2.2.2.2.2 : Int) > 20)
  ·rw [cond_false]; exact ih (i + 1) j (by omega) (by omega)
  ·rfl
theorem great_s (k : Nat) (hk : 100 ≤ k) (x : List Ro × Int × Int) : (f_u55 k x).isSome = true := by
 unfold f_u55
 by_cases h : x.1.length > 30
 ·rw [decide_eq_true (by omega : (x.1.length : Int) > 30)]; rfl
 ·rw [decide_eq_false (by omega : ¬ (x.1.length : Int) > 30), cond_false]
  exact great_l k x.1 (by omega) x.1.length 0 k (by omega) (by omega)
theorem eqT_rn (p : Rn) : eqT T0 p p = true := by
 show ((p.1 == p.1) && ((p.2.1 == p.2.1) && (p.2.2 == p.2.2))) = true
 simp

theorem comp_len (a b : List Rn) (h : (comp a b).2 = 0) : (comp a b).1.length ≤ 256 := by
 unfold comp at *
 repeat' split
 all_goals simp_all
 all_goals omega
theorem cutS_len (l : List Ro) (W L : Int) : ∀ (n : Nat) (id : Int), (cutS l W L n id).1.2.2.2.length ≤ 256 := by
 have hb : (baseS W L).2.2.2.length ≤ 256 := by unfold baseS; show (if _ then _ else _ : List Rn).length ≤ _; split <;> simp
 intro n
 induction n with
 | zero => intro id; exact hb
 | succ n ih =>
  intro id
  unfold cutS
  by_cases h0 : id = 0
  ·rw [if_pos h0]; exact hb
  ·rw [if_neg h0]
   cases look l id with
   | none => exact hb
   | some r =>
    show (cutJ r (cutS l W L n r.2.1)).1.2.2.2.length ≤ 256
    unfold cutJ
    by_cases h1 : (cutS l W L n r.2.1).2 ≠ 0
    ·rw [if_pos h1]; exact Nat.zero_le _
    ·rw [if_neg h1]
     by_cases h2 : (comp r.2.2.2.2.2 (cutS l W L n r.2.1).1.2.2.2).2 ≠ 0
     ·rw [if_pos h2]; exact Nat.zero_le _
     ·rw [if_neg h2]
      exact comp_len _ _ (Classical.not_not.1 h2)
theorem cuts_l (k : Nat) (c : Ch) (hl : c.2.2.2.length ≤ 256) : ∀ (d i j : Nat), i + d = c.2.2.2.length → d < j → f_u54_4 k j (c.2.2.2.length : Int) (i : Int) c c = some true := by
 intro d
 induction d with
 | zero =>
  intro i j hi hj
  obtain ⟨j, rfl⟩ : ∃ q, j = q + 1 := ⟨j - 1, by omega⟩
  rw [f_u54_4, decide_eq_false (by omega : ¬ (i : Int) < (c.2.2.2.length : Int)), cond_false]
 | succ d ih =>
  intro i j hi hj
  obtain ⟨j, rfl⟩ : ∃ q, j = q + 1 := ⟨j - 1, by omega⟩
  have hx : (i : Int) < (c.2.2.2.length : Int) := by omega
  have hx0 : (0 : Int) ≤ (i : Int) := by omega
  rw [f_u54_4, decide_eq_true hx, cond_true, if_pos ⟨hx0, hx, hx0, hx⟩, wrapS i (by omega), eqT_rn]
  exact ih (i + 1) j (by omega) (by omega)
theorem cuts_s (k : Nat) (hk : 1000 ≤ k) (c : Ch) (hl : c.2.2.2.length ≤ 256) : f_u54 k c c = some true := by
 unfold f_u54
 have h1 : (c.1 != c.1) = false := by simp
 have h2 : (c.2.1 != c.2.1) = false := by simp
 have h3 : (!c.2.2.1 == c.2.2.1) = false := by simp
 have h4 : (((List.length c.2.2.2 : Nat) : Int) != ((List.length c.2.2.2 : Nat) : Int)) = false := by simp
 rw [h1, h2, h3, h4]
 exact cuts_l k c hl c.2.2.2.length 0 k (by omega) (by omega)
theorem cutFull_len (l : List Ro) (W L id : Int) : (cutFull l W L id).1.2.2.2.length ≤ 256 := by
 unfold cutFull
 by_cases h : errS l W L id ≠ 0
 ·rw [if_pos h]; exact Nat.zero_le _
 ·rw [if_neg h]; exact cutS_len l W L 512 id
theorem q_FamilyCuts (k : Nat) (hk : 301000 ≤ k) (x : List Ro × Int × Int) (id : Int) : f_u49 k x id = some true := by
 have hc := cuts_s k (by omega) (cutFull x.1 x.2.1 x.2.2 id).1 (cutFull_len _ _ _ _)
 have hv : v_u54 k (cutFull x.1 x.2.1 x.2.2 id).1 (cutFull x.1 x.2.1 x.2.2 id).1 = true := by unfold v_u54; rw [hc]; rfl
 unfold f_u49
 rw [great_s k (by omega), awake_s k hk, awake_v k hk, web_s, web_v, theirs_s, theirs_v, fam_Cut_s k (by omega), fam_Cut_v k (by omega), ref42_Cut_s k (by omega), ref42_Cut_v k (by omega), hc, hv, beq_self_eq_true]
 cases v_u55 k x <;> rfl
end Go.AM
