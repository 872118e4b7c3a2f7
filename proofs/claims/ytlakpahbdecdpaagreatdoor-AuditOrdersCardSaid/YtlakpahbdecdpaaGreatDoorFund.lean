/- Contracts of the functions that the law reaches, and the plain law. -/
import Derived.Test.YtlakpahbdecdpaaGreatDoorFunc
set_option linter.unusedVariables false
set_option linter.unusedSimpArgs false
set_option linter.unusedSectionVars false
open Bool renaming and_eq_true → qj, and_false → qHb, false_and → wD, false_eq_true → qG, false_or → zn, not_false → qd1, not_true → vB, or_eq_false_iff → WN, or_eq_true → qJr, true_and → ww, true_or → zX
open Int renaming le_refl → Wg, toNat → qt, toNat_natCast → qc
open List renaming append_assoc → qw, append_nil → qY, cons_append → qpk, drop → qaJ, drop_of_length_le → qh, drop_zero → wm, getD → qM, length → qe, length_append → qn, length_cons → wc, length_singleton → qk, length_take → Qt, mem_append → zW, mem_cons → qK, nil_append → qH, pairwise_cons → zK, take → qdv, take_of_length_le → wI
open Nat renaming le_refl → qT, mul_le_mul_right → vT, succ_mul → qTX, zero_add → Yd, zero_le → z8
open Option renaming getD_some → qRI, isSome_some → qb
open Go.IntKind renaming wrap → qa
namespace Go.AM
open Go Go.Proofs
noncomputable section
def qk7 (r : Int × Int) : AV := .tup [ri r.1, ri r.2]
abbrev qCZ (a : List T11.T) (b : Int) (r : Int × Int) : Prop := CC Tryz.prog 55 [ro T11 a, ri b] [] (qk7 r) (nb r)
def qEb := fun y0 y1 y2 => (⟨qI 27 [(0, ro T11 y0), (1, ri y1), (7, ri y2)], []⟩ : St)
def Xf (k : Nat) : Nat → List T11.T → Int → Int → Option (Int × Int)
 | 0, _, _, _ => none
 | j + 1, y0, y1, y2 =>
 bif y2 < y0.length then
 if (0 ≤ y2) ∧ (y2 < y0.length) ∧ ((qaq k (y0.getD y2.toNat T11.dflt).2.2 y1).isSome) then
 bif (qb0 k (y0.getD y2.toNat T11.dflt).2.2 y1) then
 some (y2, 0)
 else
 Xf k j y0 y1 (qa .i64 (y2 + 1))
 else none
 else
 some (0, 7)
def qby (k : Nat) (a : List T11.T) (b : Int) : Option (Int × Int) :=
 if ((qbI k a).isSome) then
 bif (XA k a != (0 : Int)) then
 some (0, XA k a)
 else
 Xf k k a b 0
 else none
def qeC := fun k a b => (qby k a b).getD (0, 0)
def qJP (k : Nat) : Ke := (55, mo 2, fun
 | [.r (.ro e d), .r (.v (.int .i64 b))], [] => (qE e T11 d).bind fun a => some (.one (qk7 (qeC k a b), []))
 | _, _ => none)
def qw8 : List (Nat × List Cmd) := [(5, [.autoB [0, 1, 7] false []])]
abbrev qPV := EP Tryz.f55 0 qk7 nb
theorem qxm (k) : ∀ j, (∀ y0 y1 y2, qPV 5 (qEb y0 y1 y2) (Xf k j y0 y1 y2))
 | 0 => by intros; exact e0
 | j + 1 => by
  have ih := @qxm k j
  ·intro y0 y1 y2 r h
   rw [Xf] at h
   exact go (qD [qj1 k, qoq k]) [] qw8 [.autoB [4, 5] true []] (gS h (fun h => gN h (fun q => qf q.1 (qf q.2.1 (qf (qo4 q.2.2) qR))) fun h => qB h fun h => gC h 5 (ih _ _ _ _)) fun h => gL h)
theorem qJG (k a b r) (h : qby k a b = some r): qCZ a b r := qN Tryz.f55 (go (qD [qj1 k, qoq k]) [] qw8 [.autoB [4, 5] true []] (qu h qvW fun h => qB h fun h => gC h 5 ((qxm k k) _ _ _ _)))
theorem qJt {k a b} (h : (qby k a b).isSome): qCZ a b (qeC k a b) := qJ h (qJG k a b)
end
abbrev vr := T11.T
def XX (n : Int) : Bool := decide (n < (1 : Int)) || decide (n > (1000000 : Int))
def qdE (s : vr) : Int := bif (XX s.1 || decide (s.2.1 < (0 : Int)) || decide (s.2.1 > (2147483647 : Int))) then 1 else bif (s.2.2.length : Int) == (0 : Int) then 10 else bif decide ((s.2.2.length : Int) > (512 : Int)) then 8 else bif s.2.2.any XX then 1 else 0
def qbP : List vr → Int
 | [] => 0
 | s :: t => bif qdE s != 0 then qdE s else qbP t
def qdy : List Int → List vr → Bool
 | _, [] => false
 | bef, s :: t => wj s.1 bef || qdy (bef ++ [s.1]) t
def Yn : Option Int → List vr → Bool
 | _, [] => false
 | none, s :: t => Yn (some s.2.1) t
 | some p, s :: t => decide (s.2.1 < p) || Yn (some s.2.1) t
def qhF : List Int → List Int → Bool
 | _, [] => false
 | bef, x :: t => wj x bef || qhF (bef ++ [x]) t
def XC : List Int → List vr → Bool
 | _, [] => false
 | bef, s :: t => qhF bef s.2.2 || XC (bef ++ s.2.2) t
def Zn (l : List vr) : Int := bif decide ((l.length : Int) > (512 : Int)) then 8 else bif qbP l != 0 then qbP l else bif qdy [] l then 6 else bif Yn none l then 9 else bif XC [] l then 34 else 0
theorem qLK (k : Nat) (s : vr) (hl : s.2.2.length ≤ 1000) : ∀ (d i j : Nat), i + d = s.2.2.length → d < j → V5 k j (i : Int) s = some (bif (s.2.2.drop i).any XX then 1 else 0) := by
 intro d
 induction d with
 | zero =>
  intro i j hi hj
  obtain ⟨j, rfl⟩ := qQ (by omega : 0 < j)
  rw [V5, qx (by omega : ¬ (i : Int) < (s.2.2.length : Int)), qg, qh (by omega)]; rfl
 | succ d ih =>
  intro i j hi hj
  obtain ⟨j, rfl⟩ := qQ (by omega : 0 < j)
  have h3 : (0 : Int) ≤ (i : Int) := by omega
  have h4 : (i : Int) < (s.2.2.length : Int) := by omega
  rw [V5, qA h4, qi, qd ⟨h3, h4, fun _ => h3, fun _ => h4⟩, qc, qF i (by omega), qq s.2.2 i I.dflt (by omega), ih (i + 1) j (by omega) (by omega), List.any_cons]
  show (bif XX (s.2.2.getD i I.dflt) then _ else _) = _
  cases XX (s.2.2.getD i I.dflt) <;> rfl
theorem qxc (k : Nat) (hk : 600 ≤ k) (s : vr) : qfj k s = some (qdE s) := by
 unfold qfj qdE
 show (bif (XX s.1 || decide (s.2.1 < (0 : Int)) || decide (s.2.1 > (2147483647 : Int))) then _ else _) = _
 cases (XX s.1 || decide (s.2.1 < (0 : Int)) || decide (s.2.1 > (2147483647 : Int)))
 ·cases ((s.2.2.length : Int) == (0 : Int))
  ·by_cases h : (s.2.2.length : Int) > 512
   ·rw [qA h]; rfl
   ·rw [qx h]
    exact qLK k s (by omega) s.2.2.length 0 k (by omega) (by omega)
  ·rfl
 ·rfl
theorem qMQ (k : Nat) (hk : 600 ≤ k) (s : vr) : qeI k s = qdE s := by unfold qeI; rw [qxc k hk]; rfl
theorem qGr (k : Nat) (l : List vr) (hl : l.length ≤ 40) (hr : ∀ s ∈ l, s.2.2.length ≤ 40) (hk : 3000 ≤ k) (n : Nat) (hn : n < l.length) : ∀ (d i j : Nat) (bef : List Int), i + d = (l.getD n T11.dflt).2.2.length → bef.length + d ≤ 2500 →
  Zt k (d + 1 + j) l (n : Int) (i : Int) bef = (bif qhF bef ((l.getD n T11.dflt).2.2.drop i) then some 34 else vW k j l ((n + 1 : Nat) : Int) (bef ++ (l.getD n T11.dflt).2.2.drop i)) := by
 have n3 : (0 : Int) ≤ (n : Int) := by omega
 have n4 : (n : Int) < (l.length : Int) := by omega
 have hm := hr _ (Vh l n T11.dflt hn)
 intro d
 induction d with
 | zero =>
  intro i j bef hi hb
  rw [show 0 + 1 + j = j + 1 by omega, Zt, qd ⟨n3, n4⟩, qc, qx (by omega : ¬ (i : Int) < ((l.getD n T11.dflt).2.2.length : Int)), qg, qh (by omega), qY, qF n (by omega)]
  rfl
 | succ d ih =>
  intro i j bef hi hb
  have h3 : (0 : Int) ≤ (i : Int) := by omega
  have h4 : (i : Int) < ((l.getD n T11.dflt).2.2.length : Int) := by omega
  rw [show d + 1 + 1 + j = (d + 1 + j) + 1 by omega, Zt, qd ⟨n3, n4⟩, qc, qc, qA h4, qi, qnr k bef _ (by omega) (by omega), qtx k bef _ (by omega) (by omega), qd ⟨n3, n4, h3, h4, rfl⟩, qd ⟨n3, n4, h3, h4, by simp only [qk]; omega⟩, qF i (by omega), ih (i + 1) j _ (by omega) (by rw [qn, qk]; omega), qq (l.getD n T11.dflt).2.2 i I.dflt (by omega), qhF]
  cases wj ((l.getD n T11.dflt).2.2.getD i I.dflt) bef
  ·rw [qg, zn, qw]; rfl
  ·rw [qi, zX]; rfl
theorem qFA (k : Nat) (l : List vr) (hl : l.length ≤ 40) (hr : ∀ s ∈ l, s.2.2.length ≤ 40) (hk : 3000 ≤ k) : ∀ (d i j : Nat) (bef : List Int), i + d = l.length → d * 50 < j → bef.length + d * 40 ≤ 2000 →
  vW k j l (i : Int) bef = some (bif XC bef (l.drop i) then 34 else 0) := by
 intro d
 induction d with
 | zero =>
  intro i j bef hi hj hb
  obtain ⟨j, rfl⟩ := qQ (by omega : 0 < j)
  rw [vW, qx (by omega : ¬ (i : Int) < (l.length : Int)), qg, qh (by omega), XC]; rfl
 | succ d ih =>
  intro i j bef hi hj hb
  rw [qTX] at hj hb
  have hm := hr _ (Vh l i T11.dflt (by omega))
  generalize hz : d * 50 = z at *
  generalize hy : d * 40 = y at *
  obtain ⟨j, rfl⟩ : ∃ q, j = ((l.getD i T11.dflt).2.2.length + 1 + q) + 1 := ⟨j - (l.getD i T11.dflt).2.2.length - 2, by omega⟩
  have h26 := qGr k l hl hr hk i (by omega) (l.getD i T11.dflt).2.2.length 0 j bef (by omega) (by omega)
  rw [wm] at h26
  rw [show ((0 : Nat) : Int) = 0 from rfl] at h26
  rw [vW, qA (by omega : (i : Int) < (l.length : Int)), qi, h26, qq l i T11.dflt (by omega), XC, ih (i + 1) j _ (by omega) (by omega) (by rw [qn]; omega)]
  cases qhF bef (l.getD i T11.dflt).2.2 <;> rfl
theorem qFF (k : Nat) (l : List vr) (hl : l.length ≤ 40) (hr : ∀ s ∈ l, s.2.2.length ≤ 40) (hk : 3000 ≤ k) : ∀ (d i j : Nat), i + d = l.length → 0 < i → d + 2100 < j →
  Wi k j l (i : Int) = some (bif Yn (some (l.getD (i - 1) T11.dflt).2.1) (l.drop i) then 9 else bif XC [] l then 34 else 0) := by
 intro d
 induction d with
 | zero =>
  intro i j hi h0 hj
  obtain ⟨j, rfl⟩ := qQ (by omega : 0 < j)
  rw [Wi, qx (by omega : ¬ (i : Int) < (l.length : Int)), qg, qh (by omega), Yn, qg]
  exact qFA k l hl hr hk l.length 0 j [] (by omega) (by omega) (by simp; omega)
 | succ d ih =>
  intro i j hi h0 hj
  obtain ⟨j, rfl⟩ := qQ (by omega : 0 < j)
  have hw : qa .i64 ((i : Int) - 1) = ((i - 1 : Nat) : Int) := by rw [qo (by omega) (by omega)]; omega
  rw [Wi, qA (by omega : (i : Int) < (l.length : Int)), qi, hw, qd ⟨by omega, by omega, by omega, by omega⟩, qc, qc, qF i (by omega), ih (i + 1) j (by omega) (by omega) (by omega), qq l i T11.dflt (by omega), Yn, Nat.add_sub_cancel]
  cases decide ((l.getD i T11.dflt).2.1 < (l.getD (i - 1) T11.dflt).2.1) <;> rfl
theorem qFM (k : Nat) (l : List vr) (hl : l.length ≤ 40) (hr : ∀ s ∈ l, s.2.2.length ≤ 40) (hk : 3000 ≤ k) : ∀ (d i j : Nat) (bef : List Int), i + d = l.length → d + 2200 < j → bef.length + d ≤ 100 →
  Zw k j l (i : Int) bef = some (bif qdy bef (l.drop i) then 6 else bif Yn none l then 9 else bif XC [] l then 34 else 0) := by
 intro d
 induction d with
 | zero =>
  intro i j bef hi hj hb
  obtain ⟨j, rfl⟩ := qQ (by omega : 0 < j)
  rw [Zw, qx (by omega : ¬ (i : Int) < (l.length : Int)), qg, qh (by omega), qdy, qg]
  cases l with
  | nil =>
   obtain ⟨j, rfl⟩ := qQ (by omega : 0 < j)
   obtain ⟨j, rfl⟩ := qQ (by omega : 0 < j)
   rw [Wi]
   show vW k (j + 1) [] 0 [] = _
   rw [vW]; rfl
  | cons x t =>
   have := qFF k (x :: t) hl hr hk t.length 1 j (by rw [wc]; omega) (by omega) (by rw [wc] at hl; omega)
   exact this
 | succ d ih =>
  intro i j bef hi hj hb
  obtain ⟨j, rfl⟩ := qQ (by omega : 0 < j)
  have h3 : (0 : Int) ≤ (i : Int) := by omega
  have h4 : (i : Int) < (l.length : Int) := by omega
  rw [Zw, qA h4, qi, qc, qnr k bef _ (by omega) (by omega), qtx k bef _ (by omega) (by omega), qd ⟨h3, h4, rfl⟩, qd ⟨h3, h4, by simp only [qk]; omega⟩, qF i (by omega), ih (i + 1) j _ (by omega) (by omega) (by rw [qn, qk]; omega), qq l i T11.dflt (by omega), qdy]
  cases wj (l.getD i T11.dflt).1 bef <;> rfl
theorem qMu (k : Nat) (l : List vr) (hl : l.length ≤ 40) (hr : ∀ s ∈ l, s.2.2.length ≤ 40) (hk : 3000 ≤ k) : ∀ (d i j : Nat), i + d = l.length → d + 2300 < j →
  VY k j l (i : Int) = some (bif qbP (l.drop i) != 0 then qbP (l.drop i) else bif qdy [] l then 6 else bif Yn none l then 9 else bif XC [] l then 34 else 0) := by
 intro d
 induction d with
 | zero =>
  intro i j hi hj
  obtain ⟨j, rfl⟩ := qQ (by omega : 0 < j)
  rw [VY, qx (by omega : ¬ (i : Int) < (l.length : Int)), qg, qh (by omega), qbP, bne_self_eq_false, qg]
  exact qFM k l hl hr hk l.length 0 j [] (by omega) (by omega) (by simp; omega)
 | succ d ih =>
  intro i j hi hj
  obtain ⟨j, rfl⟩ := qQ (by omega : 0 < j)
  have h3 : (0 : Int) ≤ (i : Int) := by omega
  have h4 : (i : Int) < (l.length : Int) := by omega
  rw [VY, qA h4, qi, qc, qxc k (by omega), qMQ k (by omega), qd ⟨h3, h4, rfl⟩, qF i (by omega), ih (i + 1) j (by omega) (by omega), qq l i T11.dflt (by omega), qbP]
  cases h : (qdE (l.getD i T11.dflt) != 0)
  ·rfl
  ·rw [qi, qi, h]; rfl
theorem qpi (k : Nat) (hk : 3000 ≤ k) (l : List vr) (hl : l.length ≤ 40) (hr : ∀ s ∈ l, s.2.2.length ≤ 40) : qbI k l = some (Zn l) := by
 unfold qbI Zn
 rw [qx (by omega : ¬ (l.length : Int) > 512), qg, qg]
 exact qMu k l hl hr hk l.length 0 k (by omega) (by omega)
theorem qvD (k : Nat) (hk : 3000 ≤ k) (l : List vr) (hl : l.length ≤ 40) (hr : ∀ s ∈ l, s.2.2.length ≤ 40) : XA k l = Zn l := by
 unfold XA; rw [qpi k hk l hl hr]; rfl
def qjL (x : Int) (l : List vr) : Bool := l.any fun s => wj x s.2.2
theorem qFk (k : Nat) (l : List vr) (hl : l.length ≤ 40) (hr : ∀ s ∈ l, s.2.2.length ≤ 40) (hk : 3000 ≤ k) (x : Int) : ∀ (d i j : Nat), i + d = l.length → d < j →
  ∃ n : Int, Xf k j l x (i : Int) = some (n, bif qjL x (l.drop i) then 0 else 7) := by
 intro d
 induction d with
 | zero =>
  intro i j hi hj
  obtain ⟨j, rfl⟩ := qQ (by omega : 0 < j)
  refine ⟨0, ?_⟩
  rw [Xf, qx (by omega : ¬ (i : Int) < (l.length : Int)), qg, qh (by omega)]; rfl
 | succ d ih =>
  intro i j hi hj
  obtain ⟨j, rfl⟩ := qQ (by omega : 0 < j)
  have h3 : (0 : Int) ≤ (i : Int) := by omega
  have h4 : (i : Int) < (l.length : Int) := by omega
  have hm := hr _ (Vh l i T11.dflt (by omega))
  obtain ⟨n, hn⟩ := ih (i + 1) j (by omega) (by omega)
  rw [Xf, qA h4, qi, qc, qnr k _ x (by omega) (by omega), qtx k _ x (by omega) (by omega), qd ⟨h3, h4, rfl⟩, qF i (by omega), hn, qq l i T11.dflt (by omega)]
  show ∃ n, _ = some (n, bif (wj x (l.getD i T11.dflt).2.2 || qjL x (l.drop (i + 1))) then 0 else 7)
  cases wj x (l.getD i T11.dflt).2.2
  ·exact ⟨n, rfl⟩
  ·exact ⟨(i : Int), rfl⟩
theorem qFt (k : Nat) (hk : 3000 ≤ k) (l : List vr) (hl : l.length ≤ 40) (hr : ∀ s ∈ l, s.2.2.length ≤ 40) (x : Int) (he : Zn l = 0) : ∃ n : Int, qby k l x = some (n, bif qjL x l then 0 else 7) := by
 unfold qby
 rw [qpi k hk l hl hr, qvD k hk l hl hr, he, qb, qd rfl, bne_self_eq_false, qg]
 exact qFk k l hl hr hk x l.length 0 k (by omega) (by omega)
theorem qBW (k : Nat) (n : Int) : (!qhW k n) = XX n := by
 show (!(decide (n ≥ 1) && decide (n ≤ 1000000))) = (decide (n < (1 : Int)) || decide (n > (1000000 : Int)))
 by_cases h1 : n < 1
 ·rw [qA h1, qx (by omega : ¬ n ≥ 1)]; rfl
 ·by_cases h2 : n > 1000000
  ·rw [qx h1, qA h2, qA (by omega : n ≥ 1), qx (by omega : ¬ n ≤ 1000000)]; rfl
  ·rw [qx h1, qx h2, qA (by omega : n ≥ 1), qA (by omega : n ≤ 1000000)]; rfl
theorem qN6 (k : Nat) (l : List Int) (hl : l.length ≤ 1000) : ∀ (d i j : Nat), i + d = l.length → d < j → V7 k j l (l.length : Int) (i : Int) = some (bif (l.drop i).any XX then 1 else 0) := by
 intro d
 induction d with
 | zero =>
  intro i j hi hj
  obtain ⟨j, rfl⟩ := qQ (by omega : 0 < j)
  rw [V7, qx (by omega : ¬ (i : Int) < (l.length : Int)), qg, qh (by omega)]; rfl
 | succ d ih =>
  intro i j hi hj
  obtain ⟨j, rfl⟩ := qQ (by omega : 0 < j)
  rw [V7, qA (by omega : (i : Int) < (l.length : Int)), qi, qd ⟨by omega, by omega⟩, qc, qBW, qd (show (qb8 k (l.getD i I.dflt)).isSome = true from rfl), qF i (by omega), qq l i I.dflt (by omega), ih (i + 1) j (by omega) (by omega), List.any_cons]
  cases XX (l.getD i I.dflt) <;> rfl
theorem qEF (k : Nat) (hk : 600 ≤ k) (s : vr) : qem k s = some (qdE s) := by
 unfold qem qdE
 rw [qd (show (qb8 k s.1).isSome = true from rfl), qBW]
 cases (XX s.1 || decide (s.2.1 < (0 : Int)) || decide (s.2.1 > (2147483647 : Int)))
 ·cases ((s.2.2.length : Int) == (0 : Int))
  ·by_cases h : (s.2.2.length : Int) > 512
   ·rw [qA h]; rfl
   ·rw [qx h]
    exact qN6 k s.2.2 (by omega) s.2.2.length 0 k (by omega) (by omega)
  ·rfl
 ·rfl
theorem qQ2 (k : Nat) (hk : 600 ≤ k) (s : vr) : qeP k s = qdE s := by unfold qeP; rw [qEF k hk]; rfl
theorem qJW (k : Nat) (l : List vr) (n : Nat) (hn : n ≤ 1000) (m : List Int) (hm : m.length ≤ 40) : ∀ (d i j : Nat) (bef : List Int) (M : List (Int × Bool)), i + d = m.length → (∀ x, (wd I (β := Bool) x M).getD false = wj x bef) →
  ∃ M' : List (Int × Bool), Zp k (d + 1 + j) l (l.length : Int) (n : Int) m (m.length : Int) (i : Int) M = (bif qhF bef (m.drop i) then some 34 else vX k j l (l.length : Int) ((n + 1 : Nat) : Int) M') ∧ ∀ x, (wd I (β := Bool) x M').getD false = wj x (bef ++ m.drop i) := by
 intro d
 induction d with
 | zero =>
  intro i j bef M hi hM
  refine ⟨M, ?_, fun x => ?_⟩
  ·rw [show 0 + 1 + j = j + 1 by omega, Zp, qx (by omega : ¬ (i : Int) < (m.length : Int)), qg, qh (by omega), qF n (by omega)]; rfl
  ·rw [qh (by omega), qY]; exact hM x
 | succ d ih =>
  intro i j bef M hi hM
  have hM' : ∀ x, (wd I (β := Bool) x (vq I (β := Bool) (m.getD i I.dflt) true M)).getD false = wj x (bef ++ [m.getD i I.dflt]) := fun x => by rw [qkV, hM x, qpN]
  obtain ⟨M', h1, h2⟩ := ih (i + 1) j (bef ++ [m.getD i I.dflt]) _ (by omega) hM'
  have hrw : m.drop i = m.getD i I.dflt :: m.drop (i + 1) := qq m i I.dflt (by omega)
  refine ⟨M', ?_, fun x => ?_⟩
  ·rw [show d + 1 + 1 + j = (d + 1 + j) + 1 by omega, Zp, qA (by omega : (i : Int) < (m.length : Int)), qi, qd ⟨by omega, by omega⟩, qc, qF i (by omega), hrw, qhF]
   have e := hM (m.getD i I.dflt)
   show (bif (wd I (β := Bool) (m.getD i I.dflt) M).getD false then _ else _) = _
   rw [e]
   cases wj (m.getD i I.dflt) bef
   ·rw [qg, zn]; exact h1
   ·rfl
  ·rw [h2 x, hrw, qw]; rfl
theorem qML (k : Nat) (l : List vr) (hl : l.length ≤ 40) (hr : ∀ s ∈ l, s.2.2.length ≤ 40) : ∀ (d i j : Nat) (bef : List Int) (M : List (Int × Bool)), i + d = l.length → d * 50 < j → (∀ x, (wd I (β := Bool) x M).getD false = wj x bef) →
  vX k j l (l.length : Int) (i : Int) M = some (bif XC bef (l.drop i) then 34 else 0) := by
 intro d
 induction d with
 | zero =>
  intro i j bef M hi hj hM
  obtain ⟨j, rfl⟩ := qQ (by omega : 0 < j)
  rw [vX, qx (by omega : ¬ (i : Int) < (l.length : Int)), qg, qh (by omega), XC]; rfl
 | succ d ih =>
  intro i j bef M hi hj hM
  rw [qTX] at hj
  have hm := hr _ (Vh l i T11.dflt (by omega))
  generalize hz : d * 50 = z at *
  obtain ⟨j, rfl⟩ : ∃ q, j = ((l.getD i T11.dflt).2.2.length + 1 + q) + 1 := ⟨j - (l.getD i T11.dflt).2.2.length - 2, by omega⟩
  obtain ⟨M', h1, h2⟩ := qJW k l i (by omega) (l.getD i T11.dflt).2.2 hm (l.getD i T11.dflt).2.2.length 0 j bef M (by omega) hM
  rw [wm] at h1 h2
  rw [show ((0 : Nat) : Int) = 0 from rfl] at h1
  rw [vX, qA (by omega : (i : Int) < (l.length : Int)), qi, qd ⟨by omega, by omega⟩, qc, h1, qq l i T11.dflt (by omega), XC, ih (i + 1) j _ M' (by omega) (by omega) h2]
  cases qhF bef (l.getD i T11.dflt).2.2 <;> rfl
theorem qLP (k : Nat) (l : List vr) (hl : l.length ≤ 40) (hr : ∀ s ∈ l, s.2.2.length ≤ 40) : ∀ (d i j : Nat), i + d = l.length → 0 < i → d + 2100 < j →
  Wt k j l (i : Int) [] = some (bif Yn (some (l.getD (i - 1) T11.dflt).2.1) (l.drop i) then 9 else bif XC [] l then 34 else 0) := by
 intro d
 induction d with
 | zero =>
  intro i j hi h0 hj
  obtain ⟨j, rfl⟩ := qQ (by omega : 0 < j)
  rw [Wt, qx (by omega : ¬ (i : Int) < (l.length : Int)), qg, qh (by omega), Yn, qg]
  exact qML k l hl hr l.length 0 j [] [] (by omega) (by omega) (fun x => rfl)
 | succ d ih =>
  intro i j hi h0 hj
  obtain ⟨j, rfl⟩ := qQ (by omega : 0 < j)
  have hw : qa .i64 ((i : Int) - 1) = ((i - 1 : Nat) : Int) := by rw [qo (by omega) (by omega)]; omega
  rw [Wt, qA (by omega : (i : Int) < (l.length : Int)), qi, hw, qd ⟨by omega, by omega, by omega, by omega⟩, qc, qc, qF i (by omega), ih (i + 1) j (by omega) (by omega) (by omega), qq l i T11.dflt (by omega), Yn, Nat.add_sub_cancel]
  cases decide ((l.getD i T11.dflt).2.1 < (l.getD (i - 1) T11.dflt).2.1) <;> rfl
theorem qLo (k : Nat) (l : List vr) (hl : l.length ≤ 40) (hr : ∀ s ∈ l, s.2.2.length ≤ 40) : ∀ (d i j : Nat) (bef : List Int) (M : List (Int × Bool)), i + d = l.length → d + 2200 < j → (∀ x, (wd I (β := Bool) x M).getD false = wj x bef) →
  Zu k j l l (l.length : Int) (i : Int) M [] = some (bif qdy bef (l.drop i) then 6 else bif Yn none l then 9 else bif XC [] l then 34 else 0) := by
 intro d
 induction d with
 | zero =>
  intro i j bef M hi hj hM
  obtain ⟨j, rfl⟩ := qQ (by omega : 0 < j)
  rw [Zu, qx (by omega : ¬ (i : Int) < (l.length : Int)), qg, qh (by omega), qdy, qg]
  cases l with
  | nil =>
   obtain ⟨j, rfl⟩ := qQ (by omega : 0 < j)
   obtain ⟨j, rfl⟩ := qQ (by omega : 0 < j)
   rw [Wt]
   show vX k (j + 1) [] 0 0 [] = _
   rw [vX]; rfl
  | cons x t =>
   have := qLP k (x :: t) hl hr t.length 1 j (by rw [wc]; omega) (by omega) (by rw [wc] at hl; omega)
   exact this
 | succ d ih =>
  intro i j bef M hi hj hM
  obtain ⟨j, rfl⟩ := qQ (by omega : 0 < j)
  have hM' : ∀ x, (wd I (β := Bool) x (vq I (β := Bool) (l.getD i T11.dflt).1 true M)).getD false = wj x (bef ++ [(l.getD i T11.dflt).1]) := fun x => by rw [qkV, hM x, qpN]
  have h := ih (i + 1) j (bef ++ [(l.getD i T11.dflt).1]) _ (by omega) (by omega) hM'
  have e := hM (l.getD i T11.dflt).1
  rw [Zu, qA (by omega : (i : Int) < (l.length : Int)), qi, qd ⟨by omega, by omega⟩, qc, qF i (by omega), qq l i T11.dflt (by omega), qdy]
  show (bif (wd I (β := Bool) (l.getD i T11.dflt).1 M).getD false then _ else _) = _
  rw [e]
  cases wj (l.getD i T11.dflt).1 bef
  ·rw [qg, zn]; exact h
  ·rfl
theorem qOx (k : Nat) (hk : 3000 ≤ k) (l : List vr) (hl : l.length ≤ 40) (hr : ∀ s ∈ l, s.2.2.length ≤ 40) : ∀ (d i j : Nat), i + d = l.length → d + 2300 < j →
  VX k j l l (l.length : Int) (i : Int) = some (bif qbP (l.drop i) != 0 then qbP (l.drop i) else bif qdy [] l then 6 else bif Yn none l then 9 else bif XC [] l then 34 else 0) := by
 intro d
 induction d with
 | zero =>
  intro i j hi hj
  obtain ⟨j, rfl⟩ := qQ (by omega : 0 < j)
  rw [VX, qx (by omega : ¬ (i : Int) < (l.length : Int)), qg, qh (by omega), qbP, bne_self_eq_false, qg]
  exact qLo k l hl hr l.length 0 j [] [] (by omega) (by omega) (fun x => rfl)
 | succ d ih =>
  intro i j hi hj
  obtain ⟨j, rfl⟩ := qQ (by omega : 0 < j)
  rw [VX, qA (by omega : (i : Int) < (l.length : Int)), qi, qd ⟨by omega, by omega⟩, qc, qEF k (by omega), qQ2 k (by omega), qb, qd rfl, qF i (by omega), ih (i + 1) j (by omega) (by omega), qq l i T11.dflt (by omega), qbP]
  cases h : (qdE (l.getD i T11.dflt) != 0)
  ·rfl
  ·rw [qi, qi, h]; rfl
theorem qBg (k : Nat) (hk : 3000 ≤ k) (l : List vr) (hl : l.length ≤ 40) (hr : ∀ s ∈ l, s.2.2.length ≤ 40) : qec k l = some (Zn l) := by
 unfold qec Zn
 rw [qx (by omega : ¬ (l.length : Int) > 512), qg, qg]
 exact qOx k hk l hl hr l.length 0 k (by omega) (by omega)
theorem qPm (k : Nat) (hk : 3000 ≤ k) (l : List vr) (hl : l.length ≤ 40) (hr : ∀ s ∈ l, s.2.2.length ≤ 40) : qal k l = Zn l := by
 unfold qal; rw [qBg k hk l hl hr]; rfl
end Go.AM
namespace Go.AM
open Go Go.Proofs
noncomputable section
abbrev qCz (a : Int) (b : Int) (d : Int) (r : Int) : Prop := CC Tryz.prog 186 [ri a, ri b, ri d] [] (ri r) (nb r)
def qex (k : Nat) (a : Int) (b : Int) (d : Int) : Option Int :=
 bif (decide (a < 1) || decide (a > 2500) || decide (b < 1) || decide (b > 2500) || decide (d < 1) || decide (d > 5000)) then
 some 1
 else
 bif b < a then
 some 9
 else
 some 0
def qev := fun k a b d => (qex k a b d).getD 0
def qK3 (k : Nat) : Ke := (186, mo 3, fun
 | [.r (.v (.int .i64 a)), .r (.v (.int .i64 b)), .r (.v (.int .i64 d))], [] => some (.one (ri (qev k a b d), []))
 | _, _ => none)
theorem qKy (k a b d r) (h : qex k a b d = some r): qCz a b d r := qN Tryz.f186 (go (qD []) [] [] [.autoB [6] true []] (qB h fun h => qB h fun h => gL h))
theorem qKP {k a b d} (h : (qex k a b d).isSome): qCz a b d (qev k a b d) := qJ h (qKy k a b d)
def qtI (r : Int × Int) : AV := .tup [ri r.1, ri r.2]
abbrev qBf (a : Int) (b : Int) (d : Int) (r : Int × Int) : Prop := CC Tryz.prog 138 [ri a, ri b, ri d] [] (qtI r) (nb r)
def qeT (k : Nat) (a : Int) (b : Int) (d : Int) : Option (Int × Int) :=
 if ((qex k a b d).isSome) then
 bif (qev k a b d != 0) then
 some (0, qev k a b d)
 else
 if (qa .i64 ((1000000000 : Int) * d) ≠ (0 : Int)) then
 some (qa .i64 ((qa .i64 (qa .i64 (3141592653 * qa .i64 (qa .i64 (b * b) - qa .i64 (a * a))) * 250)).tdiv (qa .i64 (1000000000 * d))), 0)
 else none
 else none
def qhf := fun k a b d => (qeT k a b d).getD (0, 0)
def qwb (k : Nat) : Ke := (138, mo 3, fun
 | [.r (.v (.int .i64 a)), .r (.v (.int .i64 b)), .r (.v (.int .i64 d))], [] => some (.one (qtI (qhf k a b d), []))
 | _, _ => none)
theorem qJH (k a b d r) (h : qeT k a b d = some r): qBf a b d r := qN Tryz.f138 (go (qD [qK3 k]) [] [] [.autoB [6, 7] true []] (qu h qKP fun h => qB h fun h => qu h id fun h => gL h))
theorem qKG {k a b d} (h : (qeT k a b d).isSome): qBf a b d (qhf k a b d) := qJ h (qJH k a b d)
def qlf (r : Int × Int) : AV := .tup [ri r.1, ri r.2]
abbrev qBp (a : Int) (b : Int) (d : Int) (r : Int × Int) : Prop := CC Tryz.prog 97 [ri a, ri b, ri d] [] (qlf r) (nb r)
def qEc := fun y0 y1 y2 y3 => (⟨qI 49 [(0, ri y0), (1, ri y1), (2, ri y2), (8, ri y3)], []⟩ : St)
def V9 (k : Nat) : Nat → Int → Int → Int → Int → Option (Int × Int)
 | 0, _, _, _, _ => none
 | j + 1, y0, y1, y2, y3 =>
 bif y3 ≤ 2500 then
 if ((qeT k y0 y3 y2).isSome) then
 bif (qhf k y0 y3 y2).1 ≥ y1 then
 some (y3, 0)
 else
 V9 k j y0 y1 y2 (qa .i64 (y3 + 1))
 else none
 else
 some (0, 32)
def qep (k : Nat) (a : Int) (b : Int) (d : Int) : Option (Int × Int) :=
 bif (decide (a < 1) || decide (a > 2500) || decide (b < 0) || decide (b > 17179869184) || decide (d < 1) || decide (d > 5000)) then
 some (0, 1)
 else
 V9 k k a b d a
def qbH := fun k a b d => (qep k a b d).getD (0, 0)
def qJx (k : Nat) : Ke := (97, mo 3, fun
 | [.r (.v (.int .i64 a)), .r (.v (.int .i64 b)), .r (.v (.int .i64 d))], [] => some (.one (qlf (qbH k a b d), []))
 | _, _ => none)
def qvS : List (Nat × List Cmd) := [(4, [.autoB [0, 1, 2, 8] false []])]
abbrev qNZ := EP Tryz.f97 0 qlf nb
theorem qwW (k) : ∀ j, (∀ y0 y1 y2 y3, qNZ 4 (qEc y0 y1 y2 y3) (V9 k j y0 y1 y2 y3))
 | 0 => by intros; exact e0
 | j + 1 => by
  have ih := @qwW k j
  ·intro y0 y1 y2 y3 r h
   rw [V9] at h
   exact go (qD [qwb k]) [] qvS [.autoB [6, 7] true []] (gS h (fun h => qu h qKG fun h => qB h fun h => gC h 4 (ih _ _ _ _ _)) fun h => gL h)
theorem qKg (k a b d r) (h : qep k a b d = some r): qBp a b d r := qN Tryz.f97 (go (qD [qwb k]) [] qvS [.autoB [6, 7] true []] (qB h fun h => gC h 4 ((qwW k k) _ _ _ _ _)))
theorem qLl {k a b d} (h : (qep k a b d).isSome): qBp a b d (qbH k a b d) := qJ h (qKg k a b d)
end
def za (c d p : Int) : Int := (3141592653 * ((d * d - c * c) * 250)).tdiv (1000000000 * p)
theorem qq6 {c d : Int} (h0 : 0 ≤ c) (h1 : c ≤ d) : c * c ≤ d * d := Int.mul_le_mul h1 h1 h0 (by omega)
theorem qIk {c d : Int} (h0 : 1 ≤ c) (h1 : c ≤ d) (h2 : d ≤ 2500) : 0 ≤ c * c ∧ c * c ≤ d * d ∧ d * d ≤ 6250000 := by
 refine ⟨Int.mul_nonneg (by omega) (by omega), qq6 (by omega) h1, ?_⟩
 have := qq6 (c := d) (d := 2500) (by omega) h2
 omega
theorem qww (k : Nat) {c d p : Int} (h0 : 1 ≤ c) (h1 : c ≤ d) (h2 : d ≤ 2500) (p0 : 1 ≤ p) (p1 : p ≤ 5000) : qjy k c d p = some (za c d p) ∧ 0 ≤ za c d p ∧ za c d p ≤ 9223372036854775807 := by
 obtain ⟨a, b, e⟩ := qIk h0 h1 h2
 have hn : 0 ≤ 3141592653 * ((d * d - c * c) * 250) ∧ 3141592653 * ((d * d - c * c) * 250) ≤ 4908738520312500000 := by omega
 have q0 : 0 ≤ za c d p := Int.tdiv_nonneg hn.1 (by omega)
 have q1 : za c d p ≤ 3141592653 * ((d * d - c * c) * 250) := by
  unfold za
  rw [Int.tdiv_eq_ediv_of_nonneg hn.1]
  exact Int.ediv_le_self _ hn.1
 refine ⟨?_, q0, by omega⟩
 unfold qjy
 rw [qo (i := 1000000000 * p) (by omega) (by omega), qd (by omega), qo (i := d * d) (by omega) (by omega), qo (i := c * c) (by omega) (by omega), qo (i := d * d - c * c) (by omega) (by omega), qo (i := (d * d - c * c) * 250) (by omega) (by omega), qo (i := 3141592653 * ((d * d - c * c) * 250)) (by omega) (by omega)]
 show some (qa .i64 (za c d p)) = _
 rw [qo (by omega) (by omega)]
theorem qyr {c d e p : Int} (h0 : 1 ≤ c) (h1 : c ≤ d) (h2 : d ≤ e) (p0 : 1 ≤ p) : za c d p ≤ za c e p := by
 have a := qq6 (c := c) (d := d) (by omega) h1
 have b := qq6 (c := d) (d := e) (by omega) h2
 unfold za
 rw [Int.tdiv_eq_ediv_of_nonneg (by omega), Int.tdiv_eq_ediv_of_nonneg (by omega)]
 exact Int.ediv_le_ediv (by omega) (by omega)
def qcV (c n p : Int) : Nat → Int → Int × Int
 | 0, _ => (0, 32)
 | j + 1, d => if za c d p ≥ n then (d, 0) else qcV c n p j (d + 1)
theorem qnj {c n p : Int} : ∀ (j : Nat) (d : Int), (∀ q : Int, d ≤ q → q < d + j → ¬ za c q p ≥ n) → qcV c n p j d = (0, 32)
 | 0, _, _ => rfl
 | j + 1, d, h => by
  rw [qcV, qm (h d (by omega) (by omega))]
  exact qnj j (d + 1) fun q h0 h1 => h q (by omega) (by omega)
theorem qni {c n p : Int} : ∀ (j : Nat) (d r : Int), d ≤ r → r < d + j → (∀ q : Int, d ≤ q → q < r → ¬ za c q p ≥ n) → za c r p ≥ n → qcV c n p j d = (r, 0)
 | 0, d, r, h0, h1, _, _ => by omega
 | j + 1, d, r, h0, h1, h2, h3 => by
  rw [qcV]
  by_cases e : d = r
  ·rw [e, qd h3]
  ·rw [qm (h2 d (Wg _) (by omega))]
   exact qni j (d + 1) r (by omega) (by omega) (fun q a b => h2 q (by omega) b) h3
def YA (c n p : Int) : Int × Int := if c < 1 ∨ c > 2500 ∨ n < 0 ∨ n > 17179869184 ∨ p < 1 ∨ p > 5000 then (0, 1) else qcV c n p (2501 - c).toNat c
theorem qoN (k : Nat) {c d p : Int} (h0 : 1 ≤ c) (h1 : c ≤ d) (h2 : d ≤ 2500) (p0 : 1 ≤ p) (p1 : p ≤ 5000) : qeT k c d p = some (za c d p, 0) := by
 obtain ⟨a, b, e⟩ := qIk h0 h1 h2
 have hw := (qww k h0 h1 h2 p0 p1).2
 have hl : qex k c d p = some 0 := by
  unfold qex
  rw [qx (by omega : ¬ c < 1), qx (by omega : ¬ c > 2500), qx (by omega : ¬ d < 1), qx (by omega : ¬ d > 2500), qx (by omega : ¬ p < 1), qx (by omega : ¬ p > 5000), qx (by omega : ¬ d < c)]
  rfl
 have hv : qev k c d p = 0 := by unfold qev; rw [hl]; rfl
 unfold qeT
 rw [hl, hv, qb, qd rfl, bne_self_eq_false, qg, qo (i := 1000000000 * p) (by omega) (by omega), qd (by omega), qo (i := d * d) (by omega) (by omega), qo (i := c * c) (by omega) (by omega), qo (i := d * d - c * c) (by omega) (by omega), qo (i := 3141592653 * (d * d - c * c)) (by omega) (by omega), qo (i := 3141592653 * (d * d - c * c) * 250) (by omega) (by omega), show 3141592653 * (d * d - c * c) * 250 = 3141592653 * ((d * d - c * c) * 250) by omega]
 show some (qa .i64 (za c d p), (0 : Int)) = _
 rw [qo (by omega) (by omega)]
theorem qux (k : Nat) {c n p : Int} (h0 : 1 ≤ c) (p0 : 1 ≤ p) (p1 : p ≤ 5000) : ∀ (q j : Nat) (d : Int), d + q = 2501 → c ≤ d → q < j → V9 k j c n p d = some (qcV c n p q d) := by
 intro q
 induction q with
 | zero =>
  intro j d hd hc hj
  obtain ⟨j, rfl⟩ := qQ (by omega : 0 < j)
  rw [V9, qx (by omega : ¬ d ≤ 2500)]; rfl
 | succ q ih =>
  intro j d hd hc hj
  obtain ⟨j, rfl⟩ := qQ (by omega : 0 < j)
  have hl := qoN k (c := c) (d := d) (p := p) h0 hc (by omega) p0 p1
  have hv : qhf k c d p = (za c d p, 0) := by unfold qhf; rw [hl]; rfl
  rw [V9, qA (by omega : d ≤ 2500), qi, hl, hv, qb, qd rfl, qcV, qo (by omega) (by omega), ih j (d + 1) (by omega) (by omega) (by omega)]
  by_cases h : za c d p ≥ n
  ·rw [qA h, qi, qd h]
  ·rw [qx h, qg, qm h]
theorem qko (k : Nat) (hk : 3000 ≤ k) (c n p : Int) : qep k c n p = some (YA c n p) := by
 unfold qep YA
 by_cases h : c < 1 ∨ c > 2500 ∨ n < 0 ∨ n > 17179869184 ∨ p < 1 ∨ p > 5000
 ·rw [qd h]
  have : (decide (c < (1 : Int)) || decide (c > (2500 : Int)) || decide (n < (0 : Int)) || decide (n > (17179869184 : Int)) || decide (p < (1 : Int)) || decide (p > (5000 : Int))) = true := by
   simp only [qJr, decide_eq_true_iff]; omega
  rw [this]; rfl
 ·rw [qm h, qx (by omega), qx (by omega), qx (by omega), qx (by omega), qx (by omega), qx (by omega)]
  exact qux k (by omega) (by omega) (by omega) (2501 - c).toNat k c (by omega) (Wg _) (by omega)
theorem quJ (k : Nat) (hk : 3000 ≤ k) (c n p : Int) : qbH k c n p = YA c n p := by
 unfold qbH; rw [qko k hk]; rfl
theorem qLU (k : Nat) {c p : Int} (n : Int) (h0 : 1 ≤ c) (h1 : c ≤ 2500) (p0 : 1 ≤ p) (p1 : p ≤ 5000) {x : Int} (x0 : 0 ≤ x) (x1 : x < 2501 - c) : qiZ k x c p n = some (decide (za c (c + x) p ≥ n)) := by
 have hw := (qww k (c := c) (d := c + x) (p := p) h0 (by omega) (by omega) p0 p1).1
 have hv : qnt k c (c + x) p = za c (c + x) p := by unfold qnt; rw [hw]; rfl
 unfold qiZ
 rw [qo (by omega) (by omega), hw, hv, qb, qd rfl]
theorem qSB {a b : Int} (h0 : 0 ≤ a) (h1 : a ≤ b) (h2 : b ≤ 2501) : qa .i64 ((IntKind.u64.wrap (qa .i64 (a + b))).fdiv ((2 : Int) ^ min (qt (1 : Int)) IntKind.u64.bits)) = (a + b) / 2 := by
 have e : (2 : Int) ^ min (qt (1 : Int)) IntKind.u64.bits = 2 := by decide
 have u : IntKind.u64.wrap (a + b) = a + b := by
  show (a + b) % 18446744073709551616 = a + b
  exact Int.emod_eq_of_lt (by omega) (by omega)
 rw [qo (i := a + b) (by omega) (by omega), u, e, Int.fdiv_eq_ediv_of_nonneg _ (by decide), qo (by omega) (by omega)]
theorem qF1 (k : Nat) {c p : Int} (n : Int) (h0 : 1 ≤ c) (hc : c ≤ 2500) (p0 : 1 ≤ p) (p1 : p ≤ 5000) (m : Int) (hm : m = 2501 - c) : ∀ (q j : Nat) (a b : Int), b - a ≤ q → q < j → 0 ≤ a → a ≤ b → b ≤ m → (∀ x : Int, 0 ≤ x → x < a → ¬ za c (c + x) p ≥ n) → (b < m → za c (c + b) p ≥ n) →
  ∃ r : Int, WE k m c p n j a b = some r ∧ 0 ≤ r ∧ r ≤ m ∧ (∀ x : Int, 0 ≤ x → x < r → ¬ za c (c + x) p ≥ n) ∧ (r < m → za c (c + r) p ≥ n) := by
 intro q
 induction q with
 | zero =>
  intro j a b hq hj a0 ab bm lo hi
  obtain ⟨j, rfl⟩ := qQ (by omega : 0 < j)
  obtain rfl : a = b := by omega
  refine ⟨a, ?_, a0, bm, lo, hi⟩
  rw [WE, qx (by omega : ¬ a < a)]; rfl
 | succ q ih =>
  intro j a b hq hj a0 ab bm lo hi
  obtain ⟨j, rfl⟩ := qQ (by omega : 0 < j)
  by_cases h : a < b
  ·have hmid := qSB a0 ab (by omega)
   have x0 : a ≤ (a + b) / 2 ∧ (a + b) / 2 < b := by omega
   have hd := qLU k n h0 hc p0 p1 (x := (a + b) / 2) (by omega) (by omega)
   have hv : qjn k ((a + b) / 2) c p n = decide (za c (c + (a + b) / 2) p ≥ n) := by unfold qjn; rw [hd]; rfl
   rw [WE, qA h, qi]
   simp only [hmid]
   rw [hd, hv, qb, qd rfl]
   by_cases hp : za c (c + (a + b) / 2) p ≥ n
   ·rw [qA hp, vB, qg]
    exact ih j a ((a + b) / 2) (by omega) (by omega) a0 (by omega) (by omega) lo fun _ => hp
   ·rw [qx hp, qd1, qi, qo (by omega) (by omega)]
    refine ih j ((a + b) / 2 + 1) b (by omega) (by omega) (by omega) (by omega) bm (fun x y0 y1 => ?_) hi
    have := qyr (c := c) (d := c + x) (e := c + (a + b) / 2) (p := p) h0 (by omega) (by omega) p0
    omega
  ·obtain rfl : a = b := by omega
   refine ⟨a, ?_, a0, bm, lo, hi⟩
   rw [WE, qx h]; rfl
theorem qpW (k : Nat) (hk : 3000 ≤ k) (c n p : Int) : qjC k c n p = some (YA c n p) := by
 have hf : qmH k c p = some (decide (c ≥ 1) && decide (c ≤ 2500) && decide (p ≥ 1) && decide (p ≤ 5000)) := rfl
 have hv : qrf k c p = (decide (c ≥ 1) && decide (c ≤ 2500) && decide (p ≥ 1) && decide (p ≤ 5000)) := rfl
 unfold qjC YA
 rw [hf, hv, qb, qd rfl]
 by_cases h : c < 1 ∨ c > 2500 ∨ n < 0 ∨ n > 17179869184 ∨ p < 1 ∨ p > 5000
 ·rw [qd h]
  have : (!(decide (c ≥ 1) && decide (c ≤ 2500) && decide (p ≥ 1) && decide (p ≤ 5000)) || decide (n < (0 : Int)) || decide (n > (17179869184 : Int))) = true := by
   cases h1 : (decide (c ≥ 1) && decide (c ≤ 2500) && decide (p ≥ 1) && decide (p ≤ 5000))
   ·rfl
   ·simp only [qj, decide_eq_true_iff] at h1
    simp only [qJr, decide_eq_true_iff]; omega
  rw [this]; rfl
 ·rw [qm h, qA (by omega : c ≥ 1), qA (by omega : c ≤ 2500), qA (by omega : p ≥ 1), qA (by omega : p ≤ 5000), qx (by omega : ¬ n < 0), qx (by omega : ¬ n > 17179869184)]
  rw [show (!(true && true && true && true) || false || false) = false from rfl, qg, qo (i := 2500 - c) (by omega) (by omega), qo (i := 2500 - c + 1) (by omega) (by omega), show 2500 - c + 1 = 2501 - c by omega]
  obtain ⟨r, e, r0, r1, lo, hi⟩ := qF1 k n (c := c) (p := p) (by omega) (by omega) (by omega) (by omega) (2501 - c) rfl (2501 - c).toNat k 0 (2501 - c) (by omega) (by omega) (Wg _) (by omega) (Wg _) (fun x a b => by omega) (fun h => by omega)
  have e : qha k (2501 - c) c p n = some r := e
  have ev : qcv k (2501 - c) c p n = r := by unfold qcv; rw [e]; rfl
  rw [e, ev, qb, qd rfl, qo (by omega) (by omega)]
  by_cases hr : r < 2501 - c
  ·rw [qx (by omega : ¬ c + r > 2500), qg, qni (2501 - c).toNat c (c + r) (by omega) (by omega) (fun x a b => by
    have := lo (x - c) (by omega) (by omega)
    rw [show c + (x - c) = x by omega] at this; exact this) (hi hr)]
  ·rw [qA (by omega : c + r > 2500), qi, qnj (2501 - c).toNat c fun x a b => by
    have := lo (x - c) (by omega) (by omega)
    rw [show c + (x - c) = x by omega] at this; exact this]
theorem qzu (k : Nat) (hk : 3000 ≤ k) (c n p : Int) : qf4 k c n p = YA c n p := by
 unfold qf4; rw [qpW k hk]; rfl
end Go.AM
namespace Go.AM
open Go Go.Proofs
noncomputable section
def qpe (r : Int × Bool × Int) : AV := .tup [ri r.1, rb r.2.1, ri r.2.2]
abbrev qIF (a : List T2.T) (b : T21.T) (r : Int × Bool × Int) : Prop := CC Tryz.prog 96 [ro T2 a, .agg (qy (qr T21 b))] [] (qpe r) (nb r)
def qFR := fun y0 y1 y2 y3 => (⟨qI 55 [(7, ro T2 y0), (9, ri y1), (10, rb y2), (11, ri y3)], []⟩ : St)
def Xr (k : Nat) : Nat → List T2.T → Int → Bool → Int → Option (Int × Bool × Int)
 | 0, _, _, _, _ => none
 | j + 1, y0, y1, y2, y3 =>
 bif y3 < y0.length then
 if (0 ≤ y3) ∧ (y3 < y0.length) ∧ ((0 : Int) ≤ (0 : Int)) ∧ ((0 : Int) < (↑y0.length : Int)) then
 bif ((y0.getD y3.toNat T2.dflt).2.2.2.1 != (y0.getD (qt (0 : Int)) T2.dflt).2.2.2.1) then
 if (y2 = true → 0 ≤ y3) ∧ (y2 = true → y3 < y0.length) then
 Xr k j y0 (-1) (y2 && (y0.getD y3.toNat T2.dflt).2.2.1 == 1) (qa .i64 (y3 + 1))
 else none
 else
 if (y2 = true → 0 ≤ y3) ∧ (y2 = true → y3 < y0.length) then
 Xr k j y0 y1 (y2 && (y0.getD y3.toNat T2.dflt).2.2.1 == 1) (qa .i64 (y3 + 1))
 else none
 else none
 else
 some (y1, y2, 0)
def qdt (k : Nat) (a : List T2.T) (b : T21.T) : Option (Int × Bool × Int) :=
 if ((qek k a b).isSome) then
 bif ((VD k a b).2 != (0 : Int)) then
 some (0, false, (VD k a b).2)
 else
 bif ((↑ (VD k a b).1.length : Int) == (0 : Int)) then
 some (-1, false, 0)
 else
 if ((0 : Int) ≤ (0 : Int)) ∧ ((0 : Int) < (↑ (VD k a b).1.length : Int)) then
 Xr k k ((VD k a b).1) (((VD k a b).1.getD (qt 0) T2.dflt).2.2.2.1) true 0
 else none
 else none
def Y9 := fun k a b => (qdt k a b).getD (0, false, 0)
def qRg (k : Nat) : Ke := (96, mo 2, fun
 | [.r (.ro f d), .agg e], [] => (qE f T2 d).bind fun a => (qW [] T21 e).bind fun b => some (.one (qpe (Y9 k a b), []))
 | _, _ => none)
def qEm : List (Nat × List Cmd) := [(8, [.autoB [7, 9, 10, 11] false []])]
abbrev qRM := EP Tryz.f96 0 qpe nb
theorem qBX (k) : ∀ j, (∀ y0 y1 y2 y3, qRM 8 (qFR y0 y1 y2 y3) (Xr k j y0 y1 y2 y3))
 | 0 => by intros; exact e0
 | j + 1 => by
  have ih := @qBX k j
  ·intro y0 y1 y2 y3 r h
   rw [Xr] at h
   exact go (qD [qu0 k]) [] qEm [.autoB [4, 5, 6] true []] (gS h (fun h => gN h Xs fun h => gS h (fun h => qS h fun h => gC h 8 (ih _ _ _ _ _)) fun h => qS h fun h => gC h 8 (ih _ _ _ _ _)) fun h => gL h)
theorem qPy (k a b r) (h : qdt k a b = some r): qIF a b r := qN Tryz.f96 (go (qD [qu0 k]) [] qEm [.autoB [4, 5, 6] true []] (qu h qLd fun h => qB h fun h => qB h fun h => qS h fun h => gC h 8 ((qBX k k) _ _ _ _ _)))
theorem qPL {k a b} (h : (qdt k a b).isSome): qIF a b (Y9 k a b) := qJ h (qPy k a b)
def qtw (r : T4.T × Int) : AV := .tup [.agg (qy (qr T4 r.1)), ri r.2]
abbrev qti (a : List T5.T) (b : T23.T) (d : Int) (r : T4.T × Int) : Prop := CC Tryz.prog 94 [ro T5 a, .agg (qy (qr T23 b)), ri d] [] (qtw r) (nb r)
def Qk (g : List T5.T → T23.T → Int → Option (T4.T × Int)) (a : List T5.T) (b : T23.T) (d : Int) : (T4.T × Int) := (g a b d).getD ((T4).dflt, 0)
def wT : Nat → List T5.T → T23.T → Int → Option (T4.T × Int)
 | 0, _, _, _ => none
 | k + 1, a, b, d =>
 if ((qd8 k a b d).isSome) then
 bif ((qat k a b d).2.2 != (0 : Int)) then
 some ((0, (0, (false, []))), (qat k a b d).2.2)
 else
 bif (d == (0 : Int)) then
 bif (qat k a b d).2.1 > (0 : Int) then
 some ((0, (b.1, (false, [(0, (qat k a b d).2.1, false)]))), 0)
 else
 some ((0, (b.1, (false, []))), 0)
 else
 if ((Vs k a (↑a.length : Int) d).isSome) ∧ ((0 : Int) ≤ wa k a (↑a.length : Int) d) ∧ (wa k a (↑a.length : Int) d < (↑a.length : Int)) then
 if ((wT k a b (a.getD (qt (wa k a (↑a.length : Int) d)) T5.dflt).2.1).isSome) then
 bif ((Qk (wT k) a b (a.getD (qt (wa k a (↑a.length : Int) d)) T5.dflt).2.1).2 != (0 : Int)) then
 some ((0, (0, (false, []))), (Qk (wT k) a b (a.getD (qt (wa k a (↑a.length : Int) d)) T5.dflt).2.1).2)
 else
 bif (Qk (wT k) a b (a.getD (qt (wa k a (↑a.length : Int) d)) T5.dflt).2.1).1.2.2.1 then
 if ((qfI k (a.getD (qt (wa k a (↑a.length : Int) d)) T5.dflt).2.2.2.2.2 (Qk (wT k) a b (a.getD (qt (wa k a (↑a.length : Int) d)) T5.dflt).2.1).1.2.2.2).isSome) then
 bif ((Y0 k (a.getD (qt (wa k a (↑a.length : Int) d)) T5.dflt).2.2.2.2.2 (Qk (wT k) a b (a.getD (qt (wa k a (↑a.length : Int) d)) T5.dflt).2.1).1.2.2.2).2 != (0 : Int)) then
 some ((0, (0, (false, []))), (Y0 k (a.getD (qt (wa k a (↑a.length : Int) d)) T5.dflt).2.2.2.2.2 (Qk (wT k) a b (a.getD (qt (wa k a (↑a.length : Int) d)) T5.dflt).2.1).1.2.2.2).2)
 else
 some ((qa .i64 (qa .i64 (qa .i64 ((Qk (wT k) a b (a.getD (qt (wa k a (↑a.length : Int) d)) T5.dflt).2.1).1.1 + (Qk (wT k) a b (a.getD (qt (wa k a (↑a.length : Int) d)) T5.dflt).2.1).1.2.1) - (a.getD (qt (wa k a (↑a.length : Int) d)) T5.dflt).2.2.1) - (a.getD (qt (wa k a (↑a.length : Int) d)) T5.dflt).2.2.2.1), ((a.getD (qt (wa k a (↑a.length : Int) d)) T5.dflt).2.2.2.1, (! (a.getD (qt (wa k a (↑a.length : Int) d)) T5.dflt).2.2.2.2.1, (Y0 k (a.getD (qt (wa k a (↑a.length : Int) d)) T5.dflt).2.2.2.2.2 (Qk (wT k) a b (a.getD (qt (wa k a (↑a.length : Int) d)) T5.dflt).2.1).1.2.2.2).1))), 0)
 else none
 else
 if ((qfI k (a.getD (qt (wa k a (↑a.length : Int) d)) T5.dflt).2.2.2.2.2 (Qk (wT k) a b (a.getD (qt (wa k a (↑a.length : Int) d)) T5.dflt).2.1).1.2.2.2).isSome) then
 bif ((Y0 k (a.getD (qt (wa k a (↑a.length : Int) d)) T5.dflt).2.2.2.2.2 (Qk (wT k) a b (a.getD (qt (wa k a (↑a.length : Int) d)) T5.dflt).2.1).1.2.2.2).2 != (0 : Int)) then
 some ((0, (0, (false, []))), (Y0 k (a.getD (qt (wa k a (↑a.length : Int) d)) T5.dflt).2.2.2.2.2 (Qk (wT k) a b (a.getD (qt (wa k a (↑a.length : Int) d)) T5.dflt).2.1).1.2.2.2).2)
 else
 some ((qa .i64 ((Qk (wT k) a b (a.getD (qt (wa k a (↑a.length : Int) d)) T5.dflt).2.1).1.1 + (a.getD (qt (wa k a (↑a.length : Int) d)) T5.dflt).2.2.1), ((a.getD (qt (wa k a (↑a.length : Int) d)) T5.dflt).2.2.2.1, ((a.getD (qt (wa k a (↑a.length : Int) d)) T5.dflt).2.2.2.2.1, (Y0 k (a.getD (qt (wa k a (↑a.length : Int) d)) T5.dflt).2.2.2.2.2 (Qk (wT k) a b (a.getD (qt (wa k a (↑a.length : Int) d)) T5.dflt).2.1).1.2.2.2).1))), 0)
 else none
 else none
 else none
 else none
def vN := fun k a b d => (wT k a b d).getD ((T4).dflt, 0)
def qoe (k : Nat) : Ke := (94, mo 3, fun
 | [.r (.ro i e), .agg f, .r (.v (.int .i64 d))], [] => (qE i T5 e).bind fun a => (qW [] T23 f).bind fun b => some (.one (qtw (vN k a b d), []))
 | _, _ => none)
theorem qxg : ∀ (k : Nat) (a : List T5.T) (b : T23.T) (d : Int) (r : T4.T × Int), wT k a b d = some r → qti a b d r
 | 0, a, b, d, r, h => by simp [wT] at h
 | k + 1, a, b, d, r, h => by
  have ih : ∀ {a : List T5.T} {b : T23.T} {d : Int}, (wT k a b d).isSome = true → qti a b d (vN k a b d) := fun {a} {b} {d} h => qJ h (qxg k a b d)
  refine CC.of (fn := Tryz.f94) (by kernel_rfl) (by kernel_rfl) (by kernel_rfl) (by kernel_rfl) ?_
  rw [wT] at h
  exact go (qD [qjm k, qLC k, qNU k, qoe k]) [] [] [.frz 6 true T4, .autoB [6, 7] true []] (qu h qKb fun h => qB h fun h => gS h (fun h => qB h fun h => gL h) fun h => gN h (fun q => qf (qjr q.1) (qf q.2.1 (qf q.2.2 qR))) fun h => qu h (fun q => ih q) fun h => qB h fun h => gS h (fun h => qu h qAM fun h => qB h fun h => gL h) fun h => qu h qAM fun h => qB h fun h => gL h)
theorem qxr {k a b d} (h : (wT k a b d).isSome): qti a b d (vN k a b d) := qJ h (qxg k a b d)
end
def qbf (W L : Int) : Ch := (0, W, false, if L > 0 then [(0, L, false)] else [])
def qly (r : Ro) (o : Ch × Int) : Ch × Int :=
 if o.2 ≠ 0 then ((0, 0, false, []), o.2)
 else if (Xv r.2.2.2.2.2 o.1.2.2.2).2 ≠ 0 then ((0, 0, false, []), (Xv r.2.2.2.2.2 o.1.2.2.2).2)
 else (((if o.1.2.2.1 = true then qa .i64 (qa .i64 (qa .i64 (o.1.1 + o.1.2.1) - r.2.2.1) - r.2.2.2.1) else qa .i64 (o.1.1 + r.2.2.1)),
  r.2.2.2.1, !(o.1.2.2.1 == r.2.2.2.2.1), (Xv r.2.2.2.2.2 o.1.2.2.2).1), 0)
def W7 (l : List Ro) (W L : Int) : Nat → Int → Ch × Int
 | 0, _ => (qbf W L, 0)
 | n + 1, id => if id = 0 then (qbf W L, 0) else match look l id with
  | none => (qbf W L, 0)
  | some r => qly r (W7 l W L n r.2.1)
theorem Anc.cases {l : List Ro} {n : Nat} {id : Int} (h : Anc l n id) (h0 : id ≠ 0) : ∃ m r, n = m + 1 ∧ look l id = some r ∧ Anc l m r.2.1 := by
 cases h with
 | root => exact absurd rfl h0
 | step m _ r _ e a => exact ⟨m, r, rfl, e, a⟩
theorem qLH (W L : Int) (l : List Ro) (M : List (Int × Int)) (hM : Qn M l) : ∀ (n : Nat) (id : Int) (k : Nat), Anc l n id → n + 1000 < k → zA k W L l M id = some (W7 l W L n id) := by
 have hbase : ∀ k, zA (k + 1) W L l M 0 = some (qbf W L, 0) := fun k => by
  rw [zA]
  show (bif decide (L > 0) then some (((0 : Int), (W, (false, [((0 : Int), L, false)]))), (0 : Int)) else some (((0 : Int), (W, (false, []))), (0 : Int))) = _
  unfold qbf
  by_cases h : L > 0
  ·rw [qA h, qd h]; rfl
  ·rw [qx h, qm h]; rfl
 intro n
 induction n with
 | zero =>
  intro id k ha hk
  obtain ⟨k, rfl⟩ := qQ (by omega : 0 < k)
  by_cases h0 : id = 0
  ·rw [h0, hbase]; rfl
  ·obtain ⟨m, _, e, _⟩ := ha.cases h0
   cases e
 | succ n ih =>
  intro id k ha hk
  obtain ⟨k, rfl⟩ := qQ (by omega : 0 < k)
  by_cases h0 : id = 0
  ·rw [h0, hbase]
   unfold W7
   rw [qd rfl]
  ·obtain ⟨m, r, em, e, a⟩ := ha.cases h0
   cases em
   have hf := ih r.2.1 k a (by omega)
   obtain ⟨x, e1, e2, e3⟩ := (hM id).some e
   have hx : (x : Int) < (l.length : Int) := by omega
   rw [zA]
   unfold W7 Zb
   rw [qm h0, beq_false_of_ne h0, qg, e, e1, qRI, qd ⟨by omega, hx⟩, qc, e3, hf, qb, qd rfl, qRI, qgS k (by omega), qqT k (by omega)]
   show _ = some (qly r (W7 l W L n r.2.1))
   generalize W7 l W L n r.2.1 = o
   unfold qly
   by_cases h1 : o.2 = 0
   ·have g1 : ¬ (o.2 ≠ 0) := fun h => h h1
    rw [show (o.2 != 0) = false by simp [h1], qg, qb, qd rfl]
    rw [qm g1]
    generalize Xv r.2.2.2.2.2 o.1.2.2.2 = c
    by_cases h2 : c.2 = 0
    ·have g2 : ¬ (c.2 ≠ 0) := fun h => h h2
     rw [show (c.2 != 0) = false by simp [h2], qg, qm g2]
     cases h3 : o.1.2.2.1
     ·rfl
     ·rfl
    ·rw [bne_iff_ne.2 h2, qd h2]; rfl
   ·rw [bne_iff_ne.2 h1]
    rw [qd h1]; rfl
def qV (l : List Ro) (W L id : Int) : Ch × Int := if Qh l W L id ≠ 0 then ((0, 0, false, []), Qh l W L id) else W7 l W L 512 id
theorem qiv (k : Nat) (hk : 300000 ≤ k) (l : List Ro) (web : Int × Int) (id : Int) : qfW k l web id = some (qV l web.1 web.2 id) := by
 obtain ⟨h1, h2⟩ := qFp k hk l web id
 unfold qfW qee vb qdr qV
 by_cases h : Qh l web.1 web.2 id = 0
 ·obtain ⟨M, m1, m2, e⟩ := h2 h
  obtain ⟨reg, kn⟩ := Xh.1 h
  have hi : ¬ (Qh l web.1 web.2 id ≠ 0) := fun h' => h' h
  have hc := qLH web.1 web.2 l M m1 512 id k (reg.anc kn) (by omega)
  rw [e, qm hi]
  show (if (zA k web.1 web.2 l M id).isSome = true then some ((qbb k web.1 web.2 l M id).1, (qbb k web.1 web.2 l M id).2) else none) = _
  unfold qbb
  rw [hc]; rfl
 ·rw [h1 h, qd h]
  show (bif (Qh l web.1 web.2 id != 0) then _ else _) = _
  rw [bne_iff_ne.2 h]; rfl
theorem qpt (k : Nat) (hk : 300000 ≤ k) (l : List Ro) (web : Int × Int) (id : Int) : zd k l web id = qV l web.1 web.2 id := by
 unfold zd; rw [qiv k hk l web id]; rfl
theorem qEV (l : List Ro) (web : Int × Int) (reg : Reg l web.1 web.2) : ∀ (n : Nat) (id : Int) (k : Nat), Anc l n id → n + 300001 < k → (id = 0 ∨ ∃ q, look l id = some q) → wT k l web id = some (W7 l web.1 web.2 n id) := by
 obtain ⟨W, L⟩ := web
 have hn := reg.num
 have hbase : ∀ k, 300000 ≤ k → wT (k + 1) l (W, L) 0 = some (qbf W L, 0) := fun k hk => by
  have hz : Qh l (W, L).1 (W, L).2 0 = 0 := Xh.2 ⟨reg, .inl rfl⟩
  have hs : qcN l (W, L).1 (W, L).2 0 = (W, L, 0) := by unfold qcN wn; rw [qm (fun h => h hz), qd rfl]
  rw [wT, Ya k hk, qcx k hk, hs, qb, qd rfl]
  show (bif decide (L > 0) then some (((0 : Int), (W, (false, [((0 : Int), L, false)]))), (0 : Int)) else some (((0 : Int), (W, (false, []))), (0 : Int))) = _
  unfold qbf
  by_cases h : L > 0
  ·rw [qA h, qd h]; rfl
  ·rw [qx h, qm h]; rfl
 intro n
 induction n with
 | zero =>
  intro id k ha hk kn
  obtain ⟨k, rfl⟩ := qQ (by omega : 0 < k)
  by_cases h0 : id = 0
  ·rw [h0, hbase k (by omega)]; rfl
  ·obtain ⟨m, _, e, _⟩ := ha.cases h0
   cases e
 | succ n ih =>
  intro id k ha hk kn
  obtain ⟨k, rfl⟩ := qQ (by omega : 0 < k)
  by_cases h0 : id = 0
  ·rw [h0, hbase k (by omega)]
   unfold W7
   rw [qd rfl]
  ·obtain ⟨m, r, em, e, a⟩ := ha.cases h0
   cases em
   have ro := reg.ok.ro r (zt e).1
   have hf := ih r.2.1 k a (by omega) ro.parent
   obtain ⟨o, o1, o2, o3⟩ := qs9 k l id (by omega) (by omega)
   obtain ⟨x, e1, e2, e3⟩ := o3.some e
   have hx : (x : Int) < (l.length : Int) := by omega
   have hz : Qh l (W, L).1 (W, L).2 id = 0 := Xh.2 ⟨reg, kn⟩
   have hs : (qcN l (W, L).1 (W, L).2 id).2.2 = 0 := by unfold qcN; rw [qm (fun h => h hz)]
   rw [wT, Ya k (by omega), qcx k (by omega), hs, qb, qd rfl]
   unfold W7 Qk
   show (bif (id == 0) then _ else _) = _
   rw [qm h0, beq_false_of_ne h0, qg, e, o1, o2, e1, qRI, qd ⟨rfl, by omega, hx⟩, qc, e3, hf, qb, qd rfl, qRI, qdg k (by omega), qmx k (by omega)]
   show _ = some (qly r (W7 l W L n r.2.1))
   generalize W7 l W L n r.2.1 = o
   unfold qly
   by_cases h1 : o.2 = 0
   ·have g1 : ¬ (o.2 ≠ 0) := fun h => h h1
    rw [show (o.2 != 0) = false by simp [h1], qg, qb, qd rfl, qd rfl, qm g1]
    generalize Xv r.2.2.2.2.2 o.1.2.2.2 = c
    by_cases h2 : c.2 = 0
    ·have g2 : ¬ (c.2 ≠ 0) := fun h => h h2
     rw [show (c.2 != 0) = false by simp [h2], qg, qg, qm g2]
     cases h3 : o.1.2.2.1 <;> cases h4 : r.2.2.2.2.1 <;> rfl
    ·rw [bne_iff_ne.2 h2, qd h2]
     cases h3 : o.1.2.2.1 <;> rfl
   ·rw [bne_iff_ne.2 h1, qd h1]; rfl
theorem qdw (k : Nat) (hk : 301000 ≤ k) (l : List Ro) (web : Int × Int) (id : Int) : wT k l web id = some (qV l web.1 web.2 id) := by
 unfold qV
 by_cases h : Qh l web.1 web.2 id = 0
 ·obtain ⟨reg, kn⟩ := Xh.1 h
  rw [qm (fun h' : Qh l web.1 web.2 id ≠ 0 => h' h)]
  exact qEV l web reg 512 id k (reg.anc kn) (by omega) kn
 ·obtain ⟨k, rfl⟩ := qQ (by omega : 0 < k)
  rw [qd h, wT, Ya k (by omega), qcx k (by omega), qb, qd rfl]
  unfold qcN
  rw [qd h]
  show (bif (Qh l web.1 web.2 id != 0) then _ else _) = _
  rw [bne_iff_ne.2 h]; rfl
theorem qkm (k : Nat) (hk : 301000 ≤ k) (l : List Ro) (web : Int × Int) (id : Int) : vN k l web id = qV l web.1 web.2 id := by
 unfold vN; rw [qdw k hk l web id]; rfl
end Go.AM
namespace Go.AM
open Go
structure PtB (p : Pt) : Prop where
 a0 : 0 ≤ p.2.1
 a1 : p.2.1 ≤ 12000
 b0 : 0 ≤ p.2.2
 b1 : p.2.2 ≤ 17179869184
end Go.AM
namespace Go.AM
open Go Go.Proofs
def qoy (c : Ch) (x : Int) : Int := if c.2.2.1 = true then c.1 + c.2.1 - 1 - x else c.1 + x
theorem qiS {l : List Ro} {p : Pt} (h : p.1 = 0) (n : Nat) : qgr l n p = p := by
 cases n with
 | zero => rfl
 | succ n => unfold qgr; rw [qd h]
theorem qp5 {l : List Ro} {p : Pt} {r : Ro} (h0 : p.1 ≠ 0) (e : look l p.1 = some r) (n : Nat) : qgr l (n + 1) p = qgr l n (qaz r p) := by
 rw [qgr, qm h0, e]
structure CutIn (l : List Ro) (W L id : Int) (c : Ch) (n : Nat) : Prop where
 left : 0 ≤ c.1
 right : c.1 + c.2.1 ≤ W
 width : c.2.1 = (wn l W L id).1
 chk : Chk c.2.2.2
 len : qv c.2.2.2 = (wn l W L id).2
 web : ∀ p : Pt, p.1 = id → On l W L p → qgr l n p = (0, qoy c p.2.1, wb c.2.2.2 p.2.2)
theorem qxa {l : List Ro} {W L : Int} (reg : Reg l W L) (n : Nat) : CutIn l W L 0 (qbf W L) n := by
 have hw := reg.w
 have hl := reg.len
 have hs : wn l W L 0 = (W, L) := by unfold wn; rw [qd rfl]
 have hb : (qbf W L) = (0, W, false, if L > 0 then [(0, L, false)] else []) := rfl
 refine ⟨Wg _, by rw [hb]; show (0 : Int) + W ≤ W; omega, by rw [hs]; rfl, ?_, ?_, ?_⟩
 ·rw [hb]
  show Chk (if L > 0 then [(0, L, false)] else [])
  by_cases h : L > 0
  ·rw [qd h]
   exact ⟨by simp, ⟨⟨by show 1 ≤ L; omega, by show L ≤ _; omega, by show (0 : Int) ≤ 0; omega, by show (0 : Int) < _; omega, fun h => (by cases h), fun _ => by show (0 : Int) + L ≤ _; omega⟩, trivial⟩, by simp only [qv]; omega⟩
  ·rw [qm h]
   exact ⟨by simp, trivial, by simp only [qv]; omega⟩
 ·rw [hb, hs]
  show qv (if L > 0 then [(0, L, false)] else []) = L
  by_cases h : L > 0
  ·rw [qd h]; simp only [qv]; omega
  ·rw [qm h]; simp only [qv]; omega
 ·intro p h0 on
  obtain ⟨a0, a1, b0, b1⟩ := on
  rw [h0, hs] at a1 b1
  have b1 : p.2.2 < L := b1
  rw [qiS h0, hb]
  show p = (0, qoy (0, W, false, _) p.2.1, wb (if L > 0 then [(0, L, false)] else []) p.2.2)
  rw [qd (by omega)]
  unfold wb qoy wh
  rw [qd b1, qm (fun h => (by cases h)), qm (fun h => (by cases h))]
  show p = ((0 : Int), (0 : Int) + p.2.1, (0 : Int) + p.2.2)
  obtain ⟨p1, p2, p3⟩ := p
  have h0 : p1 = 0 := h0
  rw [h0, Int.zero_add, Int.zero_add]
theorem qLk {l : List Ro} {W L : Int} (reg : Reg l W L) : ∀ (n : Nat) (id : Int) (c : Ch), Anc l n id → W7 l W L n id = (c, 0) → CutIn l W L id c n := by
 intro n
 have hw := reg.w
 induction n with
 | zero =>
  intro id c ha hc
  by_cases h0 : id = 0
  ·cases hc; rw [h0]; exact qxa reg 0
  ·obtain ⟨_, _, e, _⟩ := ha.cases h0
   cases e
 | succ n ih =>
  intro id c ha hc
  by_cases h0 : id = 0
  ·unfold W7 at hc
   rw [qd h0] at hc
   cases hc; rw [h0]; exact qxa reg _
  ·obtain ⟨k, r, ek, e, a⟩ := ha.cases h0
   cases ek
   have ro := reg.ok.ro r (zt e).1
   obtain ⟨c1, c2, c3, c4, c5, c6, c7⟩ := ro.cut
   unfold W7 at hc
   rw [qm h0, e] at hc
   have hc : qly r (W7 l W L n r.2.1) = (c, 0) := hc
   obtain ⟨oc, oe⟩ : ∃ oc, W7 l W L n r.2.1 = oc := ⟨_, rfl⟩
   rw [oe] at hc
   unfold qly at hc
   by_cases h1 : oc.2 = 0
   ·rw [qm (fun h : oc.2 ≠ 0 => h h1)] at hc
    obtain ⟨i1, i2, i3, i4, i5, i6⟩ := ih r.2.1 oc.1 a (by rw [oe, ← h1])
    obtain ⟨cm, ce⟩ : ∃ cm, Xv r.2.2.2.2.2 oc.1.2.2.2 = cm := ⟨_, rfl⟩
    rw [ce] at hc
    by_cases h2 : cm.2 = 0
    ·rw [qm (fun h : cm.2 ≠ 0 => h h2)] at hc
     obtain ⟨_, _, _, k1, k2, k3⟩ := qCs (m := cm.1) (by rw [ce, ← h2])
     have hs := reg.small n r.2.1 a
     rw [qo (i := oc.1.1 + oc.1.2.1) (by omega) (by omega), qo (i := oc.1.1 + oc.1.2.1 - r.2.2.1) (by omega) (by omega), qo (i := oc.1.1 + oc.1.2.1 - r.2.2.1 - r.2.2.2.1) (by omega) (by omega), qo (i := oc.1.1 + r.2.2.1) (by omega) (by omega)] at hc
     have hc1 := congrArg Prod.fst hc
     have hc1 : ((if oc.1.2.2.1 = true then oc.1.1 + oc.1.2.1 - r.2.2.1 - r.2.2.2.1 else oc.1.1 + r.2.2.1), r.2.2.2.1, !(oc.1.2.2.1 == r.2.2.2.2.1), cm.1) = c := hc1
     subst hc1
     have hsz := qDH (W := W) (L := L) h0 e
     refine ⟨?_, ?_, ?_, k1, ?_, ?_⟩
     ·show 0 ≤ (if oc.1.2.2.1 = true then _ else _ : Int)
      split <;> omega
     ·show (if oc.1.2.2.1 = true then _ else _ : Int) + r.2.2.2.1 ≤ W
      split <;> omega
     ·rw [hsz]
     ·rw [hsz]; exact k2
     ·intro p hp on
      have on2 := on.place (by rw [hp]; exact h0) (by rw [hp]; exact e) ro
      rw [qp5 (by rw [hp]; exact h0) (by rw [hp]; exact e), i6 (qaz r p) rfl on2]
      obtain ⟨a0, a1, b0, b1⟩ := on
      rw [hp, hsz] at a1 b1
      have b1 : p.2.2 < qv r.2.2.2.2.2 := b1
      have e3 : wb oc.1.2.2.2 (qaz r p).2.2 = wb cm.1 p.2.2 := (k3 p.2.2 b0 b1).symm
      rw [e3]
      have e4 : qoy oc.1 (qaz r p).2.1 = qoy ((if oc.1.2.2.1 = true then oc.1.1 + oc.1.2.1 - r.2.2.1 - r.2.2.2.1 else oc.1.1 + r.2.2.1), r.2.2.2.1, !(oc.1.2.2.1 == r.2.2.2.2.1), cm.1) p.2.1 := by
       unfold qoy qaz
       cases oc.1.2.2.1 <;> cases r.2.2.2.2.1 <;> simp <;> omega
      rw [e4]
    ·rw [qd h2] at hc
     exact absurd (congrArg Prod.snd hc) h2
   ·rw [qd h1] at hc
    exact absurd (congrArg Prod.snd hc) h1
def vH (P : Int → Bool) : Nat → Nat
 | 0 => 0
 | n + 1 => vH P n + (if P (n : Int) = true then 1 else 0)
theorem qiH {P Q : Int → Bool} : ∀ n : Nat, (∀ x : Int, 0 ≤ x → x < n → P x = Q x) → vH P n = vH Q n
 | 0, _ => rfl
 | n + 1, h => by
  unfold vH
  rw [qiH n (fun x h0 h1 => h x h0 (by omega)), h n (by omega) (by omega)]
theorem qsf (P Q : Int → Bool) : ∀ n, vH (fun x => P x || Q x) n + vH (fun x => P x && Q x) n = vH P n + vH Q n
 | 0 => rfl
 | n + 1 => by
  have := qsf P Q n
  unfold vH
  cases h1 : P (n : Int) <;> cases h2 : Q (n : Int) <;> simp only [Bool.or_true, Bool.or_false, Bool.and_true, qHb, qG, if_true, if_false] <;> omega
theorem Xq {P : Int → Bool} : ∀ n : Nat, (∀ x : Int, 0 ≤ x → x < n → P x = false) → vH P n = 0
 | 0, _ => rfl
 | n + 1, h => by
  unfold vH
  rw [Xq n (fun x h0 h1 => h x h0 (by omega)), h n (by omega) (by omega)]
  rfl
theorem qjV (a b : Int) (h0 : 0 ≤ a) (hab : a ≤ b) : ∀ n : Nat, (vH (fun x => decide (a ≤ x) && decide (x < b)) n : Int) = max 0 (min b n - a)
 | 0 => by unfold vH; omega
 | n + 1 => by
  have := qjV a b h0 hab n
  unfold vH
  by_cases h1 : a ≤ (n : Int)
  ·by_cases h2 : (n : Int) < b
   ·rw [qA h1, qA h2]
    simp only [Bool.and_self, if_true]
    omega
   ·rw [qx h2, qHb, qm Bool.false_ne_true]
    omega
  ·rw [qx h1, wD, qm Bool.false_ne_true]
   omega
def Q6 (l : List Sp) (x : Int) : Bool := l.any fun s => decide (s.1 ≤ x) && decide (x < s.2)
theorem qqh (s : Sp) (l : List Sp) : Q6 (s :: l) = fun x => (decide (s.1 ≤ x) && decide (x < s.2)) || Q6 l x := by
 funext x; unfold Q6; rw [List.any_cons]
theorem qwB {N : Nat} : ∀ (l : List Sp) (m : Int), Nr m l → -1 ≤ m → (∀ s ∈ l, s.2 ≤ N) → tot l = (vH (Q6 l) N : Int)
 | [], m, _, _, _ => by
  rw [Xq (P := Q6 []) N (fun x _ _ => rfl)]; rfl
 | s :: t, m, h, hm, hb => by
  obtain ⟨h1, h2, h3⟩ := h
  have ih := qwB t s.2 h3 (by omega) (fun q hq => hb q (by simp [hq]))
  have hor := qsf (fun x => decide (s.1 ≤ x) && decide (x < s.2)) (Q6 t) N
  have hbs := hb s (by simp)
  have hz : vH (fun x => (decide (s.1 ≤ x) && decide (x < s.2)) && Q6 t x) N = 0 := Xq N fun x h0 hx => by
   by_cases hc : x < s.2
   ·have : Q6 t x = false := by
     have : ∀ (t : List Sp) (m : Int), Nr m t → x < m → Q6 t x = false := fun t => by
      induction t with
      | nil => intros; rfl
      | cons u v ih =>
       intro m hn hx
       obtain ⟨g1, g2, g3⟩ := hn
       rw [qqh]
       show ((decide (u.1 ≤ x) && decide (x < u.2)) || Q6 v x) = false
       rw [qx (by omega), ih u.2 g3 (by omega)]; rfl
     exact this t s.2 h3 hc
    show ((decide (s.1 ≤ x) && decide (x < s.2)) && Q6 t x) = false
    rw [this, qHb]
   ·show ((decide (s.1 ≤ x) && decide (x < s.2)) && Q6 t x) = false
    rw [qx hc, qHb, wD]
  have hs := qjV s.1 s.2 (by omega) (by omega) N
  rw [qqh]
  show s.2 - s.1 + tot t = _
  omega
theorem V1 (l : List Sp) (x : Int) : Q6 l x = true ↔ Qq l x := by
 rw [v8]
 unfold Q6
 simp only [List.any_eq_true, qj, decide_eq_true_eq]
def XP (m : List Rn) (x : Int) : Bool := Q6 (m.map vZ) x
abbrev NN : Nat := 17179869184
theorem qNt {m : List Rn} {r : Rn} {z : Int} (hr : r ∈ m) (h0 : lo r ≤ z) (h1 : z ≤ Go.AM.hi r) : XP m z = true := by
 unfold XP
 rw [V1, v8]
 exact ⟨vZ r, List.mem_map_of_mem hr, h0, by show z < Go.AM.hi r + 1; omega⟩
theorem qxw {m : List Rn} (h : vh m = true) : Chk m ∧ (vH (XP m) NN : Int) = qv m := by
 unfold vh at h
 rw [qj, decide_eq_true_eq, beq_iff_eq] at h
 have hc := wW.1 h.1
 have hi := qmO hc.goods
 refine ⟨hc, ?_⟩
 rw [← h.2, qwB (N := NN) (nf (m.map vZ)) (-1) (qjB hi) (by omega) (fun s hs => ((qcX hi).mem s hs).2.2)]
 refine congrArg Int.ofNat (qiH NN fun x _ _ => ?_)
 have h1 := qr2 hi x
 have h2 := V1 (nf (m.map vZ)) x
 have h3 := V1 (m.map vZ) x
 unfold XP
 cases e : Q6 (m.map vZ) x <;> cases e2 : Q6 (nf (m.map vZ)) x <;> simp_all
theorem qG7 {P Q : Int → Bool} (n : Nat) (h : ∀ x : Int, 0 ≤ x → x < n → P x = true → Q x = true) : vH P n ≤ vH Q n := by
 induction n with
 | zero => exact qT _
 | succ n ih =>
  have := ih fun x h0 h1 => h x h0 (by omega)
  have h2 := h n (by omega) (by omega)
  unfold vH
  cases h3 : P (n : Int)
  ·simp only [qG, if_false]; split <;> omega
  ·rw [h2 h3]; simp only [if_true]; omega
def Yg (c : Ch) (x : Int) : Bool := decide (c.1 ≤ x) && decide (x < c.1 + c.2.1)
def qkW : List Ro → Int → Int
 | [], _ => 0
 | r :: t, x => (if Yg r.2.2 x = true then qv r.2.2.2.2.2 else 0) + qkW t x
def Yo : List Ro → Int → Int → Bool
 | [], _, _ => false
 | r :: t, x, z => (Yg r.2.2 x && XP r.2.2.2.2.2 z) || Yo t x z
theorem qjz {m : List Rn} {z : Int} : XP m z = true ↔ ∃ r ∈ m, lo r ≤ z ∧ z ≤ Go.AM.hi r := by
 unfold XP
 rw [V1, v8]
 constructor
 ·rintro ⟨s, hs, h0, h1⟩
  obtain ⟨r, hr, rfl⟩ := List.mem_map.1 hs
  exact ⟨r, hr, h0, by have : z < Go.AM.hi r + 1 := h1; omega⟩
 ·rintro ⟨r, hr, h0, h1⟩
  exact ⟨vZ r, List.mem_map_of_mem hr, h0, by show z < Go.AM.hi r + 1; omega⟩
theorem qGo {a b : Ch} {x z : Int} (h : VP a b = false) (ha : Yg a x = true) (hb : Yg b x = true) (ia : XP a.2.2.2 z = true) (ib : XP b.2.2.2 z = true) : False := by
 obtain ⟨r, hr, r0, r1⟩ := qjz.1 ia
 obtain ⟨s, hs, s0, s1⟩ := qjz.1 ib
 unfold Yg at ha hb
 rw [qj, decide_eq_true_eq, decide_eq_true_eq] at ha hb
 have hm : VJ a.2.2.2 b.2.2.2 = true := by
  unfold VJ
  rw [List.any_eq_true]
  refine ⟨r, hr, ?_⟩
  rw [List.any_eq_true]
  refine ⟨s, hs, ?_⟩
  rw [qA (by omega), qA (by omega)]; rfl
 unfold VP at h
 rw [hm, qA (by omega), qA (by omega)] at h
 cases h
theorem qJ0 (x : Int) : ∀ (C : List Ro), (∀ r ∈ C, vh r.2.2.2.2.2 = true) → C.Pairwise (fun b r => VP r.2.2 b.2.2 = false) → (vH (Yo C x) NN : Int) = qkW C x := by
 intro C
 induction C with
 | nil =>
  intro _ _
  rw [Xq (P := Yo [] x) NN (fun x _ _ => rfl)]; rfl
 | cons r t ih =>
  intro hs hp
  obtain ⟨h1, h2⟩ := zK.1 hp
  have ih := ih (fun q hq => hs q (by simp [hq])) h2
  have hsr := (qxw (hs r (by simp))).2
  have hor := qsf (fun z => Yg r.2.2 x && XP r.2.2.2.2.2 z) (Yo t x) NN
  have hz : vH (fun z => (Yg r.2.2 x && XP r.2.2.2.2.2 z) && Yo t x z) NN = 0 := Xq NN fun z _ _ => by
   cases hc : Yg r.2.2 x
   ·rfl
   ·cases hi : XP r.2.2.2.2.2 z
    ·rfl
    ·have : ∀ (t : List Ro), (∀ a' ∈ t, VP a'.2.2 r.2.2 = false) → Yo t x z = false := fun t => by
      induction t with
      | nil => intro _; rfl
      | cons u v ih =>
       intro h
       unfold Yo
       rw [ih fun q hq => h q (by simp [hq]), Bool.or_false]
       cases hu : Yg u.2.2 x
       ·rfl
       ·cases hv : XP u.2.2.2.2.2 z
        ·rfl
        ·exact (qGo (h u (by simp)) hu hc hv hi).elim
     show (true && Yo t x z) = false
     rw [this t h1]; rfl
  have e : Yo (r :: t) x = fun z => (Yg r.2.2 x && XP r.2.2.2.2.2 z) || Yo t x z := rfl
  rw [e, qkW]
  cases hc : Yg r.2.2 x
  ·rw [hc] at hor hz
   have h0 : vH (fun z => false && XP r.2.2.2.2.2 z) NN = 0 := Xq NN fun _ _ _ => rfl
   simp only [qG, if_false]
   omega
  ·rw [hc] at hor hz
   have h0 : vH (fun z => true && XP r.2.2.2.2.2 z) NN = vH (XP r.2.2.2.2.2) NN := qiH NN fun x _ _ => ww _
   simp only [if_true]
   omega
theorem qNq {C : List Ro} {n : Int} (x : Int) (h0 : 0 ≤ n) (hn : n ≤ 17179869184) (hs : ∀ r ∈ C, vh r.2.2.2.2.2 = true) (hp : C.Pairwise (fun b r => VP r.2.2 b.2.2 = false)) (hf : ∀ r ∈ C, fitsIn n r.2.2.2.2.2) (hg : ∀ r ∈ C, goods r.2.2.2.2.2) : qkW C x ≤ n := by
 rw [← qJ0 x C hs hp]
 have h1 : vH (Yo C x) NN ≤ vH (fun z => decide (0 ≤ z) && decide (z < n)) NN := qG7 NN fun z z0 z1 hu => by
  have : ∀ (C : List Ro), (∀ r ∈ C, fitsIn n r.2.2.2.2.2) → Yo C x z = true → z < n := fun C => by
   induction C with
   | nil => intro _ h; cases h
   | cons r t ih =>
    intro hf h
    unfold Yo at h
    rw [qJr] at h
    rcases h with h | h
    ·rw [qj] at h
     obtain ⟨q, hq, q0, q1⟩ := qjz.1 h.2
     have := qkT (hf r (by simp)) q hq
     omega
    ·exact ih (fun q hq => hf q (by simp [hq])) h
  rw [qA z0, qA (this C hf hu)]; rfl
 have h2 := qjV 0 n (by omega) h0 NN
 omega
def XO (f : Int → Int) : Nat → Int
 | 0 => 0
 | n + 1 => XO f n + f n
theorem qs1 (f g : Int → Int) : ∀ n, XO (fun x => f x + g x) n = XO f n + XO g n
 | 0 => rfl
 | n + 1 => by
  have := qs1 f g n
  unfold XO; omega
theorem qpC : ∀ n, XO (fun _ => 0) n = 0
 | 0 => rfl
 | n + 1 => by
  have := qpC n
  unfold XO; omega
theorem qvw {f : Int → Int} {m : Int} (h : ∀ x, f x ≤ m) : ∀ n : Nat, XO f n ≤ n * m
 | 0 => by unfold XO; simp
 | n + 1 => by
  have := qvw h n
  have h2 := h n
  unfold XO
  rw [show ((n + 1 : Nat) : Int) = (n : Int) + 1 from rfl, Int.add_mul, Int.one_mul]
  omega
theorem qtm (P : Int → Bool) (v : Int) : ∀ n, XO (fun x => if P x = true then v else 0) n = (vH P n : Int) * v
 | 0 => by unfold XO vH; simp
 | n + 1 => by
  have := qtm P v n
  unfold XO vH
  cases h : P (n : Int)
  ·simp only [qG, if_false]; rw [this]; simp
  ·simp only [if_true]
   rw [show ((vH P n + 1 : Nat) : Int) = (vH P n : Int) + 1 from rfl, Int.add_mul, Int.one_mul, this]
def qro : List Ro → Int
 | [] => 0
 | r :: t => r.2.2.2.1 * qv r.2.2.2.2.2 + qro t
theorem qso (w : Nat) : ∀ (C : List Ro), (∀ r ∈ C, 0 ≤ r.2.2.1 ∧ 1 ≤ r.2.2.2.1 ∧ r.2.2.1 + r.2.2.2.1 ≤ w) → XO (qkW C) w = qro C
 | [], _ => qpC w
 | r :: t, h => by
  have ih := qso w t fun q hq => h q (by simp [hq])
  obtain ⟨a, b, c⟩ := h r (by simp)
  have e : qkW (r :: t) = fun x => (if Yg r.2.2 x = true then qv r.2.2.2.2.2 else 0) + qkW t x := rfl
  have h1 := qjV r.2.2.1 (r.2.2.1 + r.2.2.2.1) a (by omega) w
  have h2 : (vH (Yg r.2.2) w : Int) = r.2.2.2.1 := by
   show (vH (fun x => decide (r.2.2.1 ≤ x) && decide (x < r.2.2.1 + r.2.2.2.1)) w : Int) = _
   omega
  rw [e, qs1, qtm, h2, ih]; rfl
theorem qJQ {C : List Ro} {w n : Int} (hw : 0 ≤ w) (h0 : 0 ≤ n) (hn : n ≤ 17179869184) (hc : ∀ r ∈ C, CutOk r.2.2 w n) (hp : C.Pairwise (fun b r => VP r.2.2 b.2.2 = false)) : qro C ≤ w * n := by
 obtain ⟨w, rfl⟩ : ∃ q : Nat, w = q := ⟨w.toNat, by omega⟩
 rw [← qso w C fun r hr => ⟨(hc r hr).left, (hc r hr).width, (hc r hr).right⟩]
 exact qvw (fun x => qNq x h0 hn (fun r hr => (hc r hr).single) hp (fun r hr => (hc r hr).fits) (fun r hr => (hc r hr).chk.goods)) w
theorem Okp.pairs {W L : Int} {l : List Ro} (h : Okp W L l) : l.Pairwise (fun b r => r.2.1 = b.2.1 → VP r.2.2 b.2.2 = false) := by
 induction h with
 | nil => exact List.Pairwise.nil
 | snoc p r h f n c ih =>
  refine List.pairwise_append.2 ⟨ih, List.pairwise_singleton _ _, fun b hb q hq e => ?_⟩
  rw [List.mem_singleton] at hq
  subst hq
  unfold QE at c
  rw [List.any_eq_false] at c
  have := c b hb
  rw [beq_iff_eq.2 e, ww] at this
  simpa using this
def qSP (l : List Ro) (id : Int) : List Ro := l.filter fun r => r.2.1 == id
theorem Reg.area {l : List Ro} {W L id : Int} (reg : Reg l W L) (kn : id = 0 ∨ ∃ q, look l id = some q) : qro (qSP l id) ≤ (wn l W L id).1 * (wn l W L id).2 := by
 have hs := reg.small 512 id (reg.anc kn)
 refine qJQ hs.1 hs.2.2.1 hs.2.2.2 (fun r hr => ?_) ?_
 ·obtain ⟨h1, h2⟩ := List.mem_filter.1 hr
  have := (reg.ok.ro r h1).cut
  rw [beq_iff_eq.1 h2] at this
  exact this
 ·have h := reg.ok.pairs.sublist (List.filter_sublist (p := fun r => r.2.1 == id))
  refine h.imp_of_mem fun {a b} ha hb q => q ?_
  have h1 := beq_iff_eq.1 (List.mem_filter.1 ha).2
  have h2 := beq_iff_eq.1 (List.mem_filter.1 hb).2
  rw [h1, h2]
end Go.AM
namespace Go.AM
open Go
def Qr : List Rn → Int → Sp → List Sp
 | [], _, _ => []
 | r :: t, Vn, s => (if max (lo r) s.1 < min (hi r + 1) s.2 then [(Vn + (if r.2.2 = true then hi r + 1 - min (hi r + 1) s.2 else max (lo r) s.1 - lo r), Vn + (if r.2.2 = true then hi r + 1 - min (hi r + 1) s.2 else max (lo r) s.1 - lo r) + min (hi r + 1) s.2 - max (lo r) s.1)] else []) ++ Qr t (Vn + r.2.1) s
theorem qkJ : ∀ (m : List Rn) (a : Int) (s : Sp), (Qr m a s).length ≤ m.length
 | [], _, _ => by simp [Qr]
 | r :: t, a, s => by
  have := qkJ t (a + r.2.1) s
  unfold Qr
  rw [qn, wc]
  split <;> simp <;> omega
theorem quX : ∀ (m : List Rn) (a : Int) (s : Sp), goods m → ∀ x ∈ Qr m a s, a ≤ x.1 ∧ x.1 < x.2 ∧ x.2 ≤ a + qv m
 | [], _, _, _, x, hx => by simp [Qr] at hx
 | r :: t, a, s, ⟨g1, g2⟩, x, hx => by
  obtain ⟨l1, l2, l3, l4⟩ := g1.lohi
  have h0 := zf g2
  rw [qv]
  unfold Qr at hx
  rcases zW.1 hx with hx | hx
  ·by_cases h : max (lo r) s.1 < min (hi r + 1) s.2
   ·rw [qd h, List.mem_singleton] at hx
    subst hx
    show a ≤ a + _ ∧ a + _ < a + _ + min (hi r + 1) s.2 - max (lo r) s.1 ∧ a + _ + min (hi r + 1) s.2 - max (lo r) s.1 ≤ _
    split <;> omega
   ·rw [qm h] at hx; simp at hx
  ·have := quX t (a + r.2.1) s g2 x hx
   have := g1.1
   omega
def zP (m : List Rn) (s : Sp) : List Sp × Int := if chk m ≠ 0 then ([], chk m) else if s.1 < 0 ∨ s.1 > s.2 ∨ s.2 > 17179869184 then ([], 1) else (nf (Qr m 0 s), 0)
end Go.AM
namespace Go.AM
open Go Go.Proofs
noncomputable section
abbrev qIx (a : T6.T) (r : Int) : Prop := CC Tryz.prog 192 [.agg (qy (qr T6 a))] [] (ri r) (nb r)
def qmM (k : Nat) (a : T6.T) : Option Int :=
 bif (decide (a.1 < (0 : Int)) || decide (a.1 > a.2.1) || decide (a.2.1 > (12000 : Int)) || decide (a.2.2.1 < (0 : Int)) || decide (a.2.2.1 > a.2.2.2) || decide (a.2.2.2 > (17179869184 : Int))) then
 some 1
 else
 some 0
def qjR := fun k a => (qmM k a).getD 0
def qAA (k : Nat) : Ke := (192, mo 1, fun
 | [.agg b], [] => (qW [] T6 b).bind fun a => some (.one (ri (qjR k a), []))
 | _, _ => none)
theorem qNG (k a r) (h : qmM k a = some r): qIx a r := qN Tryz.f192 (go (qD []) [] [] [.autoB [2] true []] (qB h fun h => gL h))
theorem qPD {k a} (h : (qmM k a).isSome): qIx a (qjR k a) := qJ h (qNG k a)
abbrev qBo (a : List T7.T) (r : Int) : Prop := CC Tryz.prog 147 [ro T7 a] [] (ri r) (nb r)
def qCp := fun y0 y1 => (⟨qI 81 [(0, ro T7 y0), (3, ri y1)], []⟩ : St)
def VO (k : Nat) : Nat → List T7.T → Int → Option Int
 | 0, _, _ => none
 | j + 1, y0, y1 =>
 bif y1 < y0.length then
 if (0 ≤ y1) ∧ (y1 < y0.length) ∧ ((qmM k (y0.getD y1.toNat T7.dflt).1).isSome) then
 bif (qjR k (y0.getD y1.toNat T7.dflt).1 != (0 : Int)) then
 some (qjR k (y0.getD y1.toNat T7.dflt).1)
 else
 if (0 ≤ y1) ∧ (y1 < y0.length) ∧ (0 ≤ y1) ∧ (y1 < y0.length) ∧ (((y0.getD y1.toNat T7.dflt).1.1 == (y0.getD y1.toNat T7.dflt).1.2.1) = false → 0 ≤ y1) ∧ (((y0.getD y1.toNat T7.dflt).1.1 == (y0.getD y1.toNat T7.dflt).1.2.1) = false → y1 < y0.length) ∧ (((y0.getD y1.toNat T7.dflt).1.1 == (y0.getD y1.toNat T7.dflt).1.2.1) = false → 0 ≤ y1) ∧ (((y0.getD y1.toNat T7.dflt).1.1 == (y0.getD y1.toNat T7.dflt).1.2.1) = false → y1 < y0.length) then
 bif ((y0.getD y1.toNat T7.dflt).1.1 == (y0.getD y1.toNat T7.dflt).1.2.1 || (y0.getD y1.toNat T7.dflt).1.2.2.1 == (y0.getD y1.toNat T7.dflt).1.2.2.2) then
 some 10
 else
 if (0 ≤ y1) ∧ (y1 < y0.length) ∧ (decide ((y0.getD y1.toNat T7.dflt).2.1 < (1 : Int)) = false → 0 ≤ y1) ∧ (decide ((y0.getD y1.toNat T7.dflt).2.1 < (1 : Int)) = false → y1 < y0.length) ∧ ((decide ((y0.getD y1.toNat T7.dflt).2.1 < (1 : Int)) || decide ((y0.getD y1.toNat T7.dflt).2.1 > (16 : Int))) = false → 0 ≤ y1) ∧ ((decide ((y0.getD y1.toNat T7.dflt).2.1 < (1 : Int)) || decide ((y0.getD y1.toNat T7.dflt).2.1 > (16 : Int))) = false → y1 < y0.length) ∧ ((decide ((y0.getD y1.toNat T7.dflt).2.1 < (1 : Int)) || decide ((y0.getD y1.toNat T7.dflt).2.1 > (16 : Int)) || decide ((y0.getD y1.toNat T7.dflt).2.2 < (1 : Int))) = false → 0 ≤ y1) ∧ ((decide ((y0.getD y1.toNat T7.dflt).2.1 < (1 : Int)) || decide ((y0.getD y1.toNat T7.dflt).2.1 > (16 : Int)) || decide ((y0.getD y1.toNat T7.dflt).2.2 < (1 : Int))) = false → y1 < y0.length) then
 bif (decide ((y0.getD y1.toNat T7.dflt).2.1 < (1 : Int)) || decide ((y0.getD y1.toNat T7.dflt).2.1 > (16 : Int)) || decide ((y0.getD y1.toNat T7.dflt).2.2 < (1 : Int)) || decide ((y0.getD y1.toNat T7.dflt).2.2 > (100 : Int))) then
 some 1
 else
 VO k j y0 (qa .i64 (y1 + 1))
 else none
 else none
 else none
 else
 some 0
def qcf (k : Nat) (a : List T7.T) : Option Int :=
 bif (↑a.length : Int) > (128 : Int) then
 some 8
 else
 VO k k a 0
def qaI := fun k a => (qcf k a).getD 0
def qpg (k : Nat) : Ke := (147, mo 1, fun
 | [.r (.ro d b)], [] => (qE d T7 b).bind fun a => some (.one (ri (qaI k a), []))
 | _, _ => none)
def qwa : List (Nat × List Cmd) := [(4, [.autoB [0, 3] false []])]
abbrev qPi := EP Tryz.f147 0 ri nb
theorem qva (k) : ∀ j, (∀ y0 y1, qPi 4 (qCp y0 y1) (VO k j y0 y1))
 | 0 => by intros; exact e0
 | j + 1 => by
  have ih := @qva k j
  ·intro y0 y1 r h
   rw [VO] at h
   exact go (qD [qAA k]) [] qwa [.autoB [2] true []] (gS h (fun h => gN h (fun q => qf q.1 (qf q.2.1 (qf (qPD q.2.2) qR))) fun h => qB h fun h => gN h (fun q => qf q.1 (qf q.2.1 (qf q.2.2.1 (qf q.2.2.2.1 (qf q.2.2.2.2.1 (qf q.2.2.2.2.2.1 (qf q.2.2.2.2.2.2.1 (qf q.2.2.2.2.2.2.2 qR)))))))) fun h => qB h fun h => gN h (fun q => qf q.1 (qf q.2.1 (qf q.2.2.1 (qf q.2.2.2.1 (qf q.2.2.2.2.1 (qf q.2.2.2.2.2.1 (qf q.2.2.2.2.2.2.1 (qf q.2.2.2.2.2.2.2 qR)))))))) fun h => qB h fun h => gC h 4 (ih _ _ _)) fun h => gL h)
theorem qJ1 (k a r) (h : qcf k a = some r): qBo a r := qN Tryz.f147 (go (qD [qAA k]) [] qwa [.autoB [2] true []] (qB h fun h => gC h 4 ((qva k k) _ _ _)))
theorem qxu {k a} (h : (qcf k a).isSome): qBo a (qaI k a) := qJ h (qJ1 k a)
end
abbrev Rc4 := Int × Int × Int × Int   -- Left, Right, From, To
abbrev wP := Rc4 × Int × Int         -- Area, Kind, Level
def Y7 (r : Rc4) : Bool := decide (r.1 < (0 : Int)) || decide (r.1 > r.2.1) || decide (r.2.1 > (12000 : Int)) || decide (r.2.2.1 < (0 : Int)) || decide (r.2.2.1 > r.2.2.2) || decide (r.2.2.2 > (17179869184 : Int))
def Qo (r : Rc4) : Int := bif Y7 r then 1 else 0
structure RectOk (r : Rc4) : Prop where
 l : 0 ≤ r.1
 lr : r.1 ≤ r.2.1
 w : r.2.1 ≤ 12000
 f : 0 ≤ r.2.2.1
 ft : r.2.2.1 ≤ r.2.2.2
 t : r.2.2.2 ≤ 17179869184
theorem qxU {r : Rc4} (h : Qo r = 0) : RectOk r := by
 unfold Qo at h
 cases e : Y7 r
 ·unfold Y7 at e
  simp only [WN, decide_eq_false_iff_not] at e
  obtain ⟨⟨⟨⟨⟨a, b⟩, c⟩, d⟩, f⟩, g⟩ := e
  exact ⟨by omega, by omega, by omega, by omega, by omega, by omega⟩
 ·rw [e] at h; cases h
theorem qhQ (k : Nat) (r : Rc4) : qiD k r = some (Qo r) := by
 show (bif Y7 r then some (1 : Int) else some 0) = some (bif Y7 r then 1 else 0)
 cases Y7 r <;> rfl
theorem qse (k : Nat) (r : Rc4) : qei k r = Qo r := by
 unfold qei; rw [qhQ]; rfl
theorem qgN (k : Nat) (r : Rc4) : qmM k r = some (Qo r) := by
 show (bif Y7 r then some (1 : Int) else some 0) = some (bif Y7 r then 1 else 0)
 cases Y7 r <;> rfl
theorem qqw (k : Nat) (r : Rc4) : qjR k r = Qo r := by
 unfold qjR; rw [qgN]; rfl
def Ww (x : wP) : Int := bif (Qo x.1 != 0) then Qo x.1 else bif (x.1.1 == x.1.2.1 || x.1.2.2.1 == x.1.2.2.2) then 10 else bif (decide (x.2.1 < (1 : Int)) || decide (x.2.1 > (16 : Int)) || decide (x.2.2 < (1 : Int)) || decide (x.2.2 > (100 : Int))) then 1 else 0
def WP : List wP → Int
 | [] => 0
 | x :: t => bif (Ww x != 0) then Ww x else WP t
def zI (l : List wP) : Int := if l.length > 128 then 8 else WP l
structure SpotOk (x : wP) : Prop where
 area : RectOk x.1
 lr : x.1.1 < x.1.2.1
 ft : x.1.2.2.1 < x.1.2.2.2
 kind : 1 ≤ x.2.1 ∧ x.2.1 ≤ 16
 level : 1 ≤ x.2.2 ∧ x.2.2 ≤ 100
theorem qyT {x : wP} (h : Ww x = 0) : SpotOk x := by
 unfold Ww at h
 by_cases h1 : Qo x.1 = 0
 ·have ok := qxU h1
  rw [show (Qo x.1 != 0) = false by simp [h1], qg] at h
  obtain ⟨a, b, c, d, e, f⟩ := ok
  cases h2 : (x.1.1 == x.1.2.1 || x.1.2.2.1 == x.1.2.2.2)
  ·rw [h2, qg] at h
   simp only [WN, beq_eq_false_iff_ne, ne_eq] at h2
   cases h3 : (decide (x.2.1 < (1 : Int)) || decide (x.2.1 > (16 : Int)) || decide (x.2.2 < (1 : Int)) || decide (x.2.2 > (100 : Int)))
   ·simp only [WN, decide_eq_false_iff_not] at h3
    exact ⟨⟨a, b, c, d, e, f⟩, by omega, by omega, ⟨by omega, by omega⟩, by omega, by omega⟩
   ·rw [h3] at h; cases h
  ·rw [h2] at h; cases h
 ·rw [show (Qo x.1 != 0) = true from bne_iff_ne.2 h1, qi] at h
  exact absurd h h1
theorem qkp : ∀ {l : List wP}, WP l = 0 → ∀ x ∈ l, SpotOk x
 | [], _, x, hx => by simp at hx
 | y :: t, h, x, hx => by
  unfold WP at h
  by_cases h1 : Ww y = 0
  ·rw [show (Ww y != 0) = false by simp [h1], qg] at h
   rcases qK.1 hx with e | hx'
   ·rw [e]; exact qyT h1
   ·exact qkp h x hx'
  ·rw [show (Ww y != 0) = true from bne_iff_ne.2 h1, qi] at h
   exact absurd h h1
theorem qdC {l : List wP} (h : zI l = 0) : l.length ≤ 128 ∧ ∀ x ∈ l, SpotOk x := by
 unfold zI at h
 by_cases h1 : l.length > 128
 ·rw [qd h1] at h; omega
 ·rw [qm h1] at h
  exact ⟨by omega, qkp h⟩
theorem qoc (k : Nat) (l : List wP) (hl : l.length ≤ 128) : ∀ (d i j : Nat), i + d = l.length → d < j → Yq k j l (l.length : Int) (i : Int) = some (WP (l.drop i)) := by
 intro d
 induction d with
 | zero =>
  intro i j hi hj
  obtain ⟨j, rfl⟩ := qQ (by omega : 0 < j)
  rw [Yq, qx (by omega : ¬ (i : Int) < (l.length : Int)), qg, qh (by omega)]; rfl
 | succ d ih =>
  intro i j hi hj
  obtain ⟨j, rfl⟩ := qQ (by omega : 0 < j)
  rw [Yq, qA (by omega : (i : Int) < (l.length : Int)), qi, qd ⟨by omega, by omega⟩, qc, qF i (by omega), ih (i + 1) j (by omega) (by omega), qq l i T7.dflt (by omega), WP, qhQ, qse, qb, qd rfl]
  generalize l.getD i T7.dflt = x
  generalize WP (l.drop (i + 1)) = g
  show (bif (Qo x.1 != 0) then some (Qo x.1) else bif (x.1.1 == x.1.2.1 || x.1.2.2.1 == x.1.2.2.2) then some 10 else bif (decide (x.2.1 < (1 : Int)) || decide (x.2.1 > (16 : Int)) || decide (x.2.2 < (1 : Int)) || decide (x.2.2 > (100 : Int))) then some 1 else some g) = some (bif (Ww x != 0) then Ww x else g)
  unfold Ww
  cases h1 : (Qo x.1 != 0)
  ·cases (x.1.1 == x.1.2.1 || x.1.2.2.1 == x.1.2.2.2)
   ·cases (decide (x.2.1 < (1 : Int)) || decide (x.2.1 > (16 : Int)) || decide (x.2.2 < (1 : Int)) || decide (x.2.2 > (100 : Int))) <;> rfl
   ·rfl
  ·rw [qi, qi, h1]; rfl
theorem qer (k : Nat) (hk : 300 ≤ k) (l : List wP) : qjc k l = some (zI l) := by
 unfold qjc zI
 by_cases h : l.length > 128
 ·rw [qd h, qA (by omega : (l.length : Int) > 128)]; rfl
 ·rw [qm h, qx (by omega : ¬ (l.length : Int) > 128), qg]
  exact qoc k l (by omega) l.length 0 k (by omega) (by omega)
theorem qov (k : Nat) (hk : 300 ≤ k) (l : List wP) : qjU k l = zI l := by
 unfold qjU; rw [qer k hk]; rfl
theorem qqQ (k : Nat) (l : List wP) (hl : l.length ≤ 128) : ∀ (d i j : Nat), i + d = l.length → d < j → VO k j l (i : Int) = some (WP (l.drop i)) := by
 intro d
 induction d with
 | zero =>
  intro i j hi hj
  obtain ⟨j, rfl⟩ := qQ (by omega : 0 < j)
  rw [VO, qx (by omega : ¬ (i : Int) < (l.length : Int)), qg, qh (by omega)]; rfl
 | succ d ih =>
  intro i j hi hj
  obtain ⟨j, rfl⟩ := qQ (by omega : 0 < j)
  have hx : (i : Int) < (l.length : Int) := by omega
  have hx0 : (0 : Int) ≤ (i : Int) := by omega
  rw [VO, qA hx, qi, qc, qF i (by omega), ih (i + 1) j (by omega) (by omega), qq l i T7.dflt (by omega), WP, qgN, qqw, qd ⟨hx0, hx, rfl⟩, qd ⟨hx0, hx, hx0, hx, fun _ => hx0, fun _ => hx, fun _ => hx0, fun _ => hx⟩, qd ⟨hx0, hx, fun _ => hx0, fun _ => hx, fun _ => hx0, fun _ => hx, fun _ => hx0, fun _ => hx⟩]
  generalize l.getD i T7.dflt = x
  generalize WP (l.drop (i + 1)) = g
  show (bif (Qo x.1 != 0) then some (Qo x.1) else bif (x.1.1 == x.1.2.1 || x.1.2.2.1 == x.1.2.2.2) then some 10 else bif (decide (x.2.1 < (1 : Int)) || decide (x.2.1 > (16 : Int)) || decide (x.2.2 < (1 : Int)) || decide (x.2.2 > (100 : Int))) then some 1 else some g) = some (bif (Ww x != 0) then Ww x else g)
  unfold Ww
  cases h1 : (Qo x.1 != 0)
  ·cases (x.1.1 == x.1.2.1 || x.1.2.2.1 == x.1.2.2.2)
   ·cases (decide (x.2.1 < (1 : Int)) || decide (x.2.1 > (16 : Int)) || decide (x.2.2 < (1 : Int)) || decide (x.2.2 > (100 : Int))) <;> rfl
   ·rfl
  ·rw [qi, qi, h1]; rfl
theorem qaL (k : Nat) (hk : 300 ≤ k) (l : List wP) : qcf k l = some (zI l) := by
 unfold qcf zI
 by_cases h : l.length > 128
 ·rw [qd h, qA (by omega : (l.length : Int) > 128)]; rfl
 ·rw [qm h, qx (by omega : ¬ (l.length : Int) > 128), qg]
  exact qqQ k l (by omega) l.length 0 k (by omega) (by omega)
theorem qgL (k : Nat) (hk : 300 ≤ k) (l : List wP) : qaI k l = zI l := by
 unfold qaI; rw [qaL k hk]; rfl
end Go.AM
namespace Go.AM
open Go Go.Proofs
noncomputable section
abbrev qlV : Type := List T21.T × Int
def qnH (r : qlV) : AV := .tup [ro T21 r.1, ri r.2]
abbrev qHq (a : List T3.T) (b : T21.T) (r : qlV) : Prop := CC Tryz.prog 149 [ro T3 a, .agg (qy (qr T21 b))] [] (qnH r) (nb r)
def qFE := fun y0 y1 y2 y3 y4 => (⟨qI 115 [(0, ro T3 y0), (3, .ptr 1000000 0 0), (7, .own 1000001 0), (8, ri y1), (9, ri y2)], [(1000000, 0, .var 91 (qy (qr T21 y3))), (1000001, 0, .row 91 T21 y4)]⟩ : St)
def qEJ := fun y0 => (⟨qI 115 [(7, ro T21 y0)], []⟩ : St)
mutual
def WX (k : Nat) : Nat → List T3.T → Int → Int → T21.T → List T21.T → Option qlV
 | 0, _, _, _, _, _ => none
 | j + 1, y0, y1, y2, y3, y4 =>
 bif y2 < y0.length then
 if (0 ≤ y2) ∧ (y2 < y0.length) ∧ (0 ≤ y2) ∧ (y2 < y0.length) ∧ (0 ≤ y2) ∧ (y2 < y0.length) then
 if (0 ≤ y2) ∧ (y2 < y0.length) then
 bif (y0.getD y2.toNat T3.dflt).2.2 then
 if (0 ≤ y2) ∧ (y2 < y0.length) ∧ (0 ≤ y2) ∧ (y2 < y0.length) ∧ (0 ≤ y2) ∧ (y2 < y0.length) then
 bif (if qa .i64 (qa .i64 ((y0.getD y2.toNat T3.dflt).1 - y3.2) + (1 : Int)) > (0 : Int) then qa .i64 (qa .i64 ((y0.getD y2.toNat T3.dflt).1 - y3.2) + (1 : Int)) else (0 : Int)) < if qa .i64 (qa .i64 ((y0.getD y2.toNat T3.dflt).1 - y3.1) + (1 : Int)) < (y0.getD y2.toNat T3.dflt).2.1 then qa .i64 (qa .i64 ((y0.getD y2.toNat T3.dflt).1 - y3.1) + (1 : Int)) else (y0.getD y2.toNat T3.dflt).2.1 then
 if ((y4.length + [(qa .i64 (y1 + if qa .i64 (qa .i64 ((y0.getD y2.toNat T3.dflt).1 - y3.2) + (1 : Int)) > (0 : Int) then qa .i64 (qa .i64 ((y0.getD y2.toNat T3.dflt).1 - y3.2) + (1 : Int)) else (0 : Int)), qa .i64 (y1 + if qa .i64 (qa .i64 ((y0.getD y2.toNat T3.dflt).1 - y3.1) + (1 : Int)) < (y0.getD y2.toNat T3.dflt).2.1 then qa .i64 (qa .i64 ((y0.getD y2.toNat T3.dflt).1 - y3.1) + (1 : Int)) else (y0.getD y2.toNat T3.dflt).2.1))].length) * (16 : Nat) ≤ (140737488355328 : Nat)) then
 if (0 ≤ y2) ∧ (y2 < y0.length) then
 WX k j y0 (qa .i64 (y1 + (y0.getD y2.toNat T3.dflt).2.1)) (qa .i64 (y2 + 1)) y3 (y4 ++ [(qa .i64 (y1 + if qa .i64 (qa .i64 ((y0.getD y2.toNat T3.dflt).1 - y3.2) + 1) > 0 then qa .i64 (qa .i64 ((y0.getD y2.toNat T3.dflt).1 - y3.2) + 1) else 0), qa .i64 (y1 + if qa .i64 (qa .i64 ((y0.getD y2.toNat T3.dflt).1 - y3.1) + 1) < (y0.getD y2.toNat T3.dflt).2.1 then qa .i64 (qa .i64 ((y0.getD y2.toNat T3.dflt).1 - y3.1) + 1) else (y0.getD y2.toNat T3.dflt).2.1))])
 else none
 else none
 else
 if (0 ≤ y2) ∧ (y2 < y0.length) then
 WX k j y0 (qa .i64 (y1 + (y0.getD y2.toNat T3.dflt).2.1)) (qa .i64 (y2 + 1)) y3 y4
 else none
 else none
 else
 bif (if qa .i64 (y3.1 - (y0.getD y2.toNat T3.dflt).1) > (0 : Int) then qa .i64 (y3.1 - (y0.getD y2.toNat T3.dflt).1) else (0 : Int)) < if qa .i64 (y3.2 - (y0.getD y2.toNat T3.dflt).1) < (y0.getD y2.toNat T3.dflt).2.1 then qa .i64 (y3.2 - (y0.getD y2.toNat T3.dflt).1) else (y0.getD y2.toNat T3.dflt).2.1 then
 if ((y4.length + [(qa .i64 (y1 + if qa .i64 (y3.1 - (y0.getD y2.toNat T3.dflt).1) > (0 : Int) then qa .i64 (y3.1 - (y0.getD y2.toNat T3.dflt).1) else (0 : Int)), qa .i64 (y1 + if qa .i64 (y3.2 - (y0.getD y2.toNat T3.dflt).1) < (y0.getD y2.toNat T3.dflt).2.1 then qa .i64 (y3.2 - (y0.getD y2.toNat T3.dflt).1) else (y0.getD y2.toNat T3.dflt).2.1))].length) * (16 : Nat) ≤ (140737488355328 : Nat)) then
 if (0 ≤ y2) ∧ (y2 < y0.length) then
 WX k j y0 (qa .i64 (y1 + (y0.getD y2.toNat T3.dflt).2.1)) (qa .i64 (y2 + 1)) y3 (y4 ++ [(qa .i64 (y1 + if qa .i64 (y3.1 - (y0.getD y2.toNat T3.dflt).1) > 0 then qa .i64 (y3.1 - (y0.getD y2.toNat T3.dflt).1) else 0), qa .i64 (y1 + if qa .i64 (y3.2 - (y0.getD y2.toNat T3.dflt).1) < (y0.getD y2.toNat T3.dflt).2.1 then qa .i64 (y3.2 - (y0.getD y2.toNat T3.dflt).1) else (y0.getD y2.toNat T3.dflt).2.1))])
 else none
 else none
 else
 if (0 ≤ y2) ∧ (y2 < y0.length) then
 WX k j y0 (qa .i64 (y1 + (y0.getD y2.toNat T3.dflt).2.1)) (qa .i64 (y2 + 1)) y3 y4
 else none
 else none
 else none
 else
 qfo k j y4
def qfo (k : Nat) : Nat → List T21.T → Option qlV
 | 0, _ => none
 | j + 1, y0 =>
 if ((qcT k y0).isSome) then
 some ((YX k y0).1, (YX k y0).2)
 else none
end
def qji (k : Nat) (a : List T3.T) (b : T21.T) : Option qlV :=
 if ((Vc k a).isSome) then
 bif (vR k a != (0 : Int)) then
 some ([], vR k a)
 else
 bif (decide (b.1 < (0 : Int)) || decide (b.1 > b.2) || decide (b.2 > (17179869184 : Int))) then
 some ([], 1)
 else
 WX k k a 0 0 b ([])
 else none
def ql8 := fun k a b => (qji k a b).getD ([], 0)
def qNY (k : Nat) : Ke := (149, mo 2, fun
 | [.r (.ro f d), .agg e], [] => (qE f T3 d).bind fun a => (qW [] T21 e).bind fun b => some (.one (qnH (ql8 k a b), []))
 | _, _ => none)
def qEw : List (Nat × List Cmd) := [(9, [.row 7 91 T21, .autoB [0, 3, 7, 8, 9] false []]), (17, [.frz 7 false (RTy.list T21), .autoB [7] false []])]
abbrev qH3 := EP Tryz.f149 0 qnH nb
theorem qDS (k) : ∀ j, (∀ {y0 y1 y2 y3 y4}, qH3 9 (qFE y0 y1 y2 y3 y4) (WX k j y0 y1 y2 y3 y4)) ∧ (∀ {y0}, qH3 17 (qEJ y0) (qfo k j y0))
 | 0 => by and_intros <;> intros <;> exact e0
 | j + 1 => by
  have ih := @qDS k j
  have g := @go (qD [qd5 k, qiN k]) [17] qEw [.frz 4 false (RTy.list T21), .autoB [4, 5] true []]
  refine ⟨?_, ?_⟩
  ·intro y0 y1 y2 y3 y4 r h
   rw [WX] at h
   exact g (gS h (fun h => gN h (fun q => qf q.1 (qf q.2.1 (qf q.2.2.1 (qf q.2.2.2.1 (qf q.2.2.2.2.1 (qf q.2.2.2.2.2 qR)))))) fun h => qS h fun h => gS h (fun h => gN h (fun q => qf q.1 (qf q.2.1 (qf q.2.2.1 (qf q.2.2.2.1 (qf q.2.2.2.2.1 (qf q.2.2.2.2.2 qR)))))) fun h => gS h (fun h => qu h id fun h => qS h fun h => gD h 9 ih.1) fun h => qS h fun h => gD h 9 ih.1) fun h => gS h (fun h => qu h id fun h => qS h fun h => gD h 9 ih.1) fun h => qS h fun h => gD h 9 ih.1) fun h => gD h 17 ih.2)
  ·intro y0 r h
   rw [qfo] at h
   exact g (qu h qsm fun h => gL h)
theorem qPx (k a b r) (h : qji k a b = some r): qHq a b r := qN Tryz.f149 (go (qD [qd5 k, qiN k]) [17] qEw [.frz 4 false (RTy.list T21), .autoB [4, 5] true []] (qu h qb2 fun h => qB h fun h => qB h fun h => gD h 9 (qDS k k).1))
theorem qNu {k a b} (h : (qji k a b).isSome): qHq a b (ql8 k a b) := qJ h (qPx k a b)
end
theorem qnn (a b : Int) : (if a > b then a else b) = max b a := by split <;> omega
theorem qjl (a b : Int) : (if a < b then a else b) = min b a := by split <;> omega
theorem qp6 (s : Sp) : (decide (s.1 < (0 : Int)) || decide (s.1 > s.2) || decide (s.2 > (17179869184 : Int))) = decide (s.1 < 0 ∨ s.1 > s.2 ∨ s.2 > 17179869184) := by
 by_cases h1 : s.1 < 0
 ·rw [qA h1, qA (Or.inl h1), zX, zX]
 ·by_cases h2 : s.1 > s.2
  ·rw [qA h2, qA (Or.inr (Or.inl h2)), Bool.or_true, zX]
  ·by_cases h3 : s.2 > 17179869184
   ·rw [qA h3, qA (Or.inr (Or.inr h3)), Bool.or_true]
   ·rw [qx h1, qx h2, qx h3, qx (by omega)]; rfl
theorem qiW {m : List Rn} (hc : Chk m) (s : Sp) : In 0 17179869184 (Qr m 0 s) := In.of fun x hx => by
 have h := quX m 0 s hc.goods x hx
 have := hc.tot
 exact ⟨by omega, by omega, by omega⟩
theorem qp3 {m : List Rn} (hc : Chk m) (s : Sp) : WM (Qr m 0 s) = (nf (Qr m 0 s), 0) := by
 have hl := qkJ m 0 s
 have := hc.len
 unfold WM
 rw [qm (fun e => e (ZT.2 ⟨by omega, qiW hc s⟩))]
def qoz (r : Rn) (a : Int) (s : Sp) : List Sp := if max (lo r) s.1 < min (Go.AM.hi r + 1) s.2 then [(a + (if r.2.2 = true then Go.AM.hi r + 1 - min (Go.AM.hi r + 1) s.2 else max (lo r) s.1 - lo r), a + (if r.2.2 = true then Go.AM.hi r + 1 - min (Go.AM.hi r + 1) s.2 else max (lo r) s.1 - lo r) + min (Go.AM.hi r + 1) s.2 - max (lo r) s.1)] else []
theorem qp7 (r : Rn) (t : List Rn) (a : Int) (s : Sp) : Qr (r :: t) a s = qoz r a s ++ Qr t (a + r.2.1) s := rfl
theorem qyh (k : Nat) (hk : 2100 ≤ k) (m : List Rn) (hc : Chk m) (s : Sp) (s0 : 0 ≤ s.1 ∧ s.1 ≤ 17179869184) (s1 : 0 ≤ s.2 ∧ s.2 ≤ 17179869184) : ∀ (d i j : Nat) (a : Int) (out : List Sp), i + d = m.length → d + 1 < j → 0 ≤ a → a ≤ (i : Int) * 17179869184 → out.length ≤ i → out ++ Qr (m.drop i) a s = Qr m 0 s →
  Z9 k j a m (m.length : Int) (i : Int) s out = some (nf (Qr m 0 s), 0) := by
 intro d
 have hl := hc.len
 induction d with
 | zero =>
  intro i j a out hi hj h0 h1 ho he
  obtain ⟨j, rfl⟩ : ∃ q, j = q + 1 + 1 := ⟨j - 2, by omega⟩
  rw [Z9, qx (by omega : ¬ (i : Int) < (m.length : Int)), qg, qfp]
  rw [qh (by omega)] at he
  rw [show Qr ([] : List Rn) a s = [] from rfl, qY] at he
  rw [he, qdX k hk, qkl k hk, qp3 hc]
  rfl
 | succ d ih =>
  intro i j a out hi hj h0 h1 ho he
  obtain ⟨j, rfl⟩ := qQ (by omega : 0 < j)
  have hg : good (m.getD i T3.dflt) := hc.goods.mem _ (w8 _ _ _ (by omega))
  rw [qq m i T3.dflt (by omega), qp7, ← qw] at he
  rw [Z9, qA (by omega : (i : Int) < (m.length : Int)), qi, qd ⟨by omega, by omega⟩, qc, qci k _ hg, qhl k _ hg, qb, qd rfl, qF i (by omega)]
  generalize m.getD i T3.dflt = r at *
  obtain ⟨g1, g2, g3, g4, _⟩ := _root_.id hg
  obtain ⟨l1, l2, l3, l4⟩ := hg.lohi
  rw [show (vZ r).1 = lo r from rfl, show (vZ r).2 = Go.AM.hi r + 1 from rfl, qnn, qjl, qo (i := a + r.2.1) (by omega) (by omega), qo (i := Go.AM.hi r + 1 - min (Go.AM.hi r + 1) s.2) (by omega) (by omega), qo (i := max (lo r) s.1 - lo r) (by omega) (by omega)]
  unfold qoz at he
  by_cases h : max (lo r) s.1 < min (Go.AM.hi r + 1) s.2
  ·rw [qA h, qi]
   rw [qd h] at he
   rw [qo (i := a + (Go.AM.hi r + 1 - min (Go.AM.hi r + 1) s.2)) (by omega) (by omega), qo (i := a + (max (lo r) s.1 - lo r)) (by omega) (by omega)]
   rw [qo (i := a + (Go.AM.hi r + 1 - min (Go.AM.hi r + 1) s.2) + min (Go.AM.hi r + 1) s.2) (by omega) (by omega), qo (i := a + (max (lo r) s.1 - lo r) + min (Go.AM.hi r + 1) s.2) (by omega) (by omega)]
   rw [qo (i := a + (Go.AM.hi r + 1 - min (Go.AM.hi r + 1) s.2) + min (Go.AM.hi r + 1) s.2 - max (lo r) s.1) (by omega) (by omega), qo (i := a + (max (lo r) s.1 - lo r) + min (Go.AM.hi r + 1) s.2 - max (lo r) s.1) (by omega) (by omega)]
   cases hb : r.2.2
   ·rw [hb] at he
    rw [qm Bool.false_ne_true] at he
    rw [qg, qd (by rw [qk]; omega)]
    exact ih (i + 1) j _ _ (by omega) (by omega) (by omega) (by omega) (by rw [qn, qk]; omega) he
   ·rw [hb] at he
    rw [qd rfl] at he
    rw [qi, qd (by rw [qk]; omega)]
    exact ih (i + 1) j _ _ (by omega) (by omega) (by omega) (by omega) (by rw [qn, qk]; omega) he
  ·rw [qx h, qg]
   rw [qm h, qY] at he
   exact ih (i + 1) j _ _ (by omega) (by omega) (by omega) (by omega) (by omega) he
theorem qml (k : Nat) (hk : 2100 ≤ k) (m : List Rn) (s : Sp) : qjo k m s = some (zP m s) := by
 unfold qjo zP
 rw [QN k (by omega), W5 k (by omega), qb, qd rfl, qp6]
 by_cases h1 : chk m = 0
 ·have hc := wW.1 h1
  have hl := hc.len
  rw [show (chk m != 0) = false by simp [h1], qg, qm (fun h : chk m ≠ 0 => h h1)]
  by_cases h2 : s.1 < 0 ∨ s.1 > s.2 ∨ s.2 > 17179869184
  ·rw [qA h2, qi, qd h2]
  ·rw [qx h2, qg, qm h2]
   exact qyh k hk m hc s ⟨by omega, by omega⟩ ⟨by omega, by omega⟩ m.length 0 k 0 [] (by omega) (by omega) (by omega) (by omega) (by simp) rfl
 ·rw [show (chk m != 0) = true from bne_iff_ne.2 h1, qi, qd h1]
theorem qy2 (k : Nat) (hk : 2100 ≤ k) (m : List Rn) (s : Sp) : qdq k m s = zP m s := by
 unfold qdq; rw [qml k hk]; rfl
def ZJ (g : Int) (p : List wE) : Bool := p.all fun x => x.2.2.2.1 == g
def qfC (p : List wE) : Bool := p.all fun x => x.2.2.1 == 1
def grS (p : List wE) : Int := if ZJ (p.getD 0 T2.dflt).2.2.2.1 p = true then (p.getD 0 T2.dflt).2.2.2.1 else -1
theorem qMh (k : Nat) (p : List wE) (hl : p.length ≤ 512) (hp : p.length ≠ 0) : ∀ (d i j : Nat) (g : Int) (a : Bool), i + d = p.length → d < j → Xr k j p g a (i : Int) = some ((if ZJ (p.getD 0 T2.dflt).2.2.2.1 (p.drop i) = true then g else -1), a && qfC (p.drop i), 0) := by
 intro d
 induction d with
 | zero =>
  intro i j g a hi hj
  obtain ⟨j, rfl⟩ := qQ (by omega : 0 < j)
  rw [Xr, qx (by omega : ¬ (i : Int) < (p.length : Int)), qg, qh (by omega)]
  show _ = some ((if true = true then g else -1), a && true, (0 : Int))
  rw [qd rfl, Bool.and_true]
 | succ d ih =>
  intro i j g a hi hj
  obtain ⟨j, rfl⟩ := qQ (by omega : 0 < j)
  have h3 : (0 : Int) ≤ (i : Int) := by omega
  have h4 : (i : Int) < (p.length : Int) := by omega
  rw [Xr, qA h4, qi, qd ⟨h3, h4, Wg 0, by omega⟩, qc, qd ⟨fun _ => h3, fun _ => h4⟩, qd ⟨fun _ => h3, fun _ => h4⟩, qF i (by omega), ih (i + 1) j _ _ (by omega) (by omega), ih (i + 1) j _ _ (by omega) (by omega), qq p i T2.dflt (by omega)]
  show _ = some ((if ((p.getD i T2.dflt).2.2.2.1 == (p.getD 0 T2.dflt).2.2.2.1 && ZJ (p.getD 0 T2.dflt).2.2.2.1 (p.drop (i + 1))) = true then g else -1), a && ((p.getD i T2.dflt).2.2.1 == 1 && qfC (p.drop (i + 1))), (0 : Int))
  rw [show p.getD (qt 0) T2.dflt = p.getD 0 T2.dflt from rfl]
  show (bif !((p.getD i T2.dflt).2.2.2.1 == (p.getD 0 T2.dflt).2.2.2.1) then _ else _) = _
  cases ((p.getD i T2.dflt).2.2.2.1 == (p.getD 0 T2.dflt).2.2.2.1)
  ·rw [qd1, qi, wD, qm Bool.false_ne_true, Bool.and_assoc]
   split <;> rfl
  ·rw [vB, qg, ww, Bool.and_assoc]
theorem qaK (k : Nat) (hk : 1200 ≤ k) {l : List wE} (hz : vw l = 0) {s : Sp} (h0 : 0 ≤ s.1) (hs : s.1 < s.2) (h1 : s.2 ≤ 17179869184) (h2 : s.2 ≤ wQ l) : qdt k l s = some (grS (zM s l), qfC (zM s l), 0) := by
 have hne := qoT hz h0 hs h2
 have hl := (Zf hz).1
 have hpl := qkC s l
 have hn : (zM s l).length ≠ 0 := fun h => hne (List.length_eq_zero_iff.1 h)
 unfold qdt
 rw [qg7 k hk hz h0 (by omega) h1 h2, qqs k hk hz h0 (by omega) h1 h2, qb, qd rfl, bne_self_eq_false, qg]
 dsimp only
 rw [show (((zM s l).length : Int) == 0) = false from beq_eq_false_iff_ne.2 (by omega), qg, qd ⟨Wg 0, by omega⟩]
 have := qMh k (zM s l) (by omega) hn (zM s l).length 0 k ((zM s l).getD 0 T2.dflt).2.2.2.1 true (by omega) (by omega)
 rw [wm, ww] at this
 exact this
theorem qgK (k : Nat) (hk : 1200 ≤ k) {l : List wE} (hz : vw l = 0) {s : Sp} (h0 : 0 ≤ s.1) (hs : s.1 < s.2) (h1 : s.2 ≤ 17179869184) (h2 : s.2 ≤ wQ l) : Y9 k l s = (grS (zM s l), qfC (zM s l), 0) := by
 unfold Y9; rw [qaK k hk hz h0 hs h1 h2]; rfl
def Zd (l : List wE) : List Sp → List wE
 | [] => []
 | s :: t => zM s l ++ Zd l t
def Qs : Int → Bool → Bool → List wE → Int × Bool
 | g, a, _, [] => (g, a)
 | g, a, f, x :: t => bif (!f && x.2.2.2.1 != g) then (-1, false) else Qs x.2.2.2.1 (a && x.2.2.1 == 1) false t
theorem qlE {g : Int} (r : List wE) : ∀ (p : List wE) (a : Bool), ZJ g p = true → Qs g a false (p ++ r) = Qs g (a && qfC p) false r
 | [], a, _ => by rw [qH]; show _ = Qs g (a && true) false r; rw [Bool.and_true]
 | x :: t, a, h => by
  obtain ⟨h1, h2⟩ := Bool.and_eq_true_iff.1 (show (x.2.2.2.1 == g && ZJ g t) = true from h)
  rw [qpk, Qs]
  have e : x.2.2.2.1 = g := by simpa using h1
  rw [e, bne_self_eq_false, qHb, qg, qlE r t _ h2]
  show _ = Qs g (a && (x.2.2.1 == 1 && qfC t)) false r
  rw [Bool.and_assoc]
theorem qkR {g : Int} (r : List wE) : ∀ (p : List wE) (a : Bool), ZJ g p = false → Qs g a false (p ++ r) = (-1, false)
 | [], a, h => by cases h
 | x :: t, a, h => by
  rw [qpk, Qs]
  by_cases e : x.2.2.2.1 = g
  ·have h2 : ZJ g t = false := by
    have h : (x.2.2.2.1 == g && ZJ g t) = false := h
    rw [e, beq_self_eq_true, ww] at h; exact h
   rw [e, bne_self_eq_false, qHb, qg, qkR r t _ h2]
  ·rw [bne_iff_ne.2 e]; rfl
theorem qrV : ∀ (p : List wE) (g : Int) (a : Bool), g < 0 → (Qs g a false p).1 < 0
 | [], g, _, h => h
 | x :: t, g, a, h => by
  rw [Qs]
  by_cases e : x.2.2.2.1 = g
  ·rw [e, bne_self_eq_false, qHb, qg]; exact qrV t g _ h
  ·rw [bne_iff_ne.2 e]; show (-1 : Int) < 0; decide
set_option maxRecDepth 20000 in
theorem qvr (k : Nat) (hk : 200000 ≤ k) (r : T28.T) (hz : vw r.2.2.1 = 0) (spans : List Sp) (hl : spans.length ≤ 256) (hs : ∀ s ∈ spans, 0 ≤ s.1 ∧ s.1 < s.2 ∧ s.2 ≤ 17179869184 ∧ s.2 ≤ wQ r.2.2.1) : qiO k r spans = some (Qs (-1) true true (Zd r.2.2.1 spans)) := by
 have hsl := (Zf hz).1
 have : ∀ (d i j : Nat) (g : Int) (a f : Bool), i + d = spans.length → d * 600 < j → Xb k j g a f spans (spans.length : Int) (i : Int) r = some (Qs g a f (Zd r.2.2.1 (spans.drop i))) := by
  intro d
  induction d with
  | zero =>
   intro i j g a f hi hj
   obtain ⟨j, rfl⟩ := qQ (by omega : 0 < j)
   rw [Xb, qx (by omega : ¬ (i : Int) < (spans.length : Int)), qg, qh (by omega)]; rfl
  | succ d ih =>
   intro i j g a f hi hj
   obtain ⟨j, rfl⟩ := qQ (by omega : 0 < j)
   have hm := hs (spans.getD i T21.dflt) (w8 _ _ _ (by omega))
   obtain ⟨s0, s1, s2, s3⟩ := hm
   have hpl := qkC (spans.getD i T21.dflt) r.2.2.1
   rw [Xb, qA (by omega : (i : Int) < (spans.length : Int)), qi, qd ⟨by omega, by omega⟩, qc, qhk k (by omega) hz s0 (by omega) s2 s3, quh k (by omega) hz s0 (by omega) s2 s3, qb, qd rfl, qq spans i T21.dflt (by omega), Zd]
   generalize zM (spans.getD i T21.dflt) r.2.2.1 = P at *
   have inner : ∀ (e q j : Nat) (g : Int) (a f : Bool), q + e = P.length → d * 600 + e + 1 < j → VZ k j g a f spans (spans.length : Int) (i : Int) P (P.length : Int) (q : Int) r = some (Qs g a f (P.drop q ++ Zd r.2.2.1 (spans.drop (i + 1)))) := by
    intro e
    induction e with
    | zero =>
     intro q j g a f hq hj
     obtain ⟨j, rfl⟩ := qQ (by omega : 0 < j)
     rw [VZ, qx (by omega : ¬ (q : Int) < (P.length : Int)), qg, qh (by omega : P.length ≤ q), qH, qF i (by omega)]
     have hj' : d * 600 < j := by omega
     have hi' : i + 1 + d = spans.length := by omega
     exact ih (i + 1) j g a f hi' hj'
    | succ e ihe =>
     intro q j g a f hq hj
     obtain ⟨j, rfl⟩ := qQ (by omega : 0 < j)
     rw [VZ, qA (by omega : (q : Int) < (P.length : Int)), qi, qd ⟨by omega, by omega⟩, qc, qF q (by omega), ihe (q + 1) j _ _ _ (by omega) (by omega), qq P q T2.dflt (by omega), qpk, Qs]
     cases (!f && (P.getD q T2.dflt).2.2.2.1 != g) <;> rfl
   exact inner P.length 0 j g a f (by omega) (by omega)
 exact this spans.length 0 k (-1) true true (by omega) (by omega)
theorem qLx (k : Nat) (hk : 200000 ≤ k) (r : T28.T) (hz : vw r.2.2.1 = 0) (spans : List Sp) (hl : spans.length ≤ 256) (hs : ∀ s ∈ spans, 0 ≤ s.1 ∧ s.1 < s.2 ∧ s.2 ≤ 17179869184 ∧ s.2 ≤ wQ r.2.2.1) : QA k r spans = Qs (-1) true true (Zd r.2.2.1 spans) := by
 unfold QA; rw [qvr k hk r hz spans hl hs]; rfl
theorem qCB (k : Nat) (r : T28.T) (hl : r.2.2.1.length ≤ 512) : qeh k r = some (wQ r.2.2.1 == r.2.1.2) := by
 unfold qeh wQ
 by_cases h : r.2.2.1.length = 0
 ·rw [qd h, qx (by omega : ¬ (qe r.2.2.1 : Int) > 0), qg]
  show some (r.2.1.2 == 0) = some (0 == r.2.1.2)
  rw [Bool.beq_comm]
 ·rw [qm h, qA (by omega : (qe r.2.2.1 : Int) > 0), qi, qjk hl h, qd ⟨by omega, by omega⟩, qc]
theorem qRw (k : Nat) (r : T28.T) (hl : r.2.2.1.length ≤ 512) : qhq k r = (wQ r.2.2.1 == r.2.1.2) := by
 unfold qhq; rw [qCB k r hl]; rfl
theorem qCc {r : Rn} (hg : good r) (a : Int) (s : Sp) (hb : r.2.2 = true) : qoz r a s = if max 0 (r.1 - s.2 + 1) < min r.2.1 (r.1 - s.1 + 1) then [(a + max 0 (r.1 - s.2 + 1), a + min r.2.1 (r.1 - s.1 + 1))] else [] := by
 obtain ⟨g1, g2, g3, g4, _⟩ := hg
 unfold qoz lo Go.AM.hi
 rw [hb]
 simp only [if_true]
 by_cases h : max 0 (r.1 - s.2 + 1) < min r.2.1 (r.1 - s.1 + 1)
 ·rw [qd h, qd (by omega)]
  rw [show a + (r.1 + 1 - min (r.1 + 1) s.2) = a + max 0 (r.1 - s.2 + 1) by omega, show a + max 0 (r.1 - s.2 + 1) + min (r.1 + 1) s.2 - max (r.1 - r.2.1 + 1) s.1 = a + min r.2.1 (r.1 - s.1 + 1) by omega]
 ·rw [qm h, qm (by omega)]
theorem qD8 {r : Rn} (hg : good r) (a : Int) (s : Sp) (hb : r.2.2 = false) : qoz r a s = if max 0 (s.1 - r.1) < min r.2.1 (s.2 - r.1) then [(a + max 0 (s.1 - r.1), a + min r.2.1 (s.2 - r.1))] else [] := by
 obtain ⟨g1, g2, g3, g4, _⟩ := hg
 unfold qoz lo Go.AM.hi
 rw [hb]
 simp only [qG, if_false]
 by_cases h : max 0 (s.1 - r.1) < min r.2.1 (s.2 - r.1)
 ·rw [qd h, qd (by omega)]
  rw [show a + (max r.1 s.1 - r.1) = a + max 0 (s.1 - r.1) by omega, show a + max 0 (s.1 - r.1) + min (r.1 + r.2.1 - 1 + 1) s.2 - max r.1 s.1 = a + min r.2.1 (s.2 - r.1) by omega]
 ·rw [qm h, qm (by omega)]
theorem qtD (k : Nat) (hk : 2100 ≤ k) (m : List Rn) (hc : Chk m) (s : Sp) (s0 : 0 ≤ s.1 ∧ s.1 ≤ 17179869184) (s1 : 0 ≤ s.2 ∧ s.2 ≤ 17179869184) : ∀ (d i j : Nat) (a : Int) (out : List Sp), i + d = m.length → d + 1 < j → 0 ≤ a → a ≤ (i : Int) * 17179869184 → out.length ≤ i → out ++ Qr (m.drop i) a s = Qr m 0 s →
  WX k j m a (i : Int) s out = some (nf (Qr m 0 s), 0) := by
 intro d
 have hl := hc.len
 induction d with
 | zero =>
  intro i j a out hi hj h0 h1 ho he
  obtain ⟨j, rfl⟩ : ∃ q, j = q + 1 + 1 := ⟨j - 2, by omega⟩
  rw [WX, qx (by omega : ¬ (i : Int) < (m.length : Int)), qg, qfo]
  rw [qh (by omega)] at he
  rw [show Qr ([] : List Rn) a s = [] from rfl, qY] at he
  rw [he, X9 k (by omega), qbJ k (by omega), qp3 hc]
  rfl
 | succ d ih =>
  intro i j a out hi hj h0 h1 ho he
  obtain ⟨j, rfl⟩ := qQ (by omega : 0 < j)
  have hg : good (m.getD i T3.dflt) := hc.goods.mem _ (w8 _ _ _ (by omega))
  have hx : (i : Int) < (m.length : Int) := by omega
  have hx0 : (0 : Int) ≤ (i : Int) := by omega
  rw [qq m i T3.dflt (by omega), qp7, ← qw] at he
  rw [WX, qA hx, qi, qd ⟨hx0, hx, hx0, hx, hx0, hx⟩, qd ⟨hx0, hx⟩, qc, qF i (by omega)]
  generalize m.getD i T3.dflt = r at *
  obtain ⟨g1, g2, g3, g4, _⟩ := _root_.id hg
  rw [qnn, qjl, qnn, qjl, qo (i := a + r.2.1) (by omega) (by omega)]
  rw [qo (i := r.1 - s.2) (by omega) (by omega), qo (i := r.1 - s.1) (by omega) (by omega), qo (i := s.1 - r.1) (by omega) (by omega), qo (i := s.2 - r.1) (by omega) (by omega)]
  rw [qo (i := r.1 - s.2 + 1) (by omega) (by omega), qo (i := r.1 - s.1 + 1) (by omega) (by omega)]
  rw [qo (i := a + max 0 (r.1 - s.2 + 1)) (by omega) (by omega), qo (i := a + min r.2.1 (r.1 - s.1 + 1)) (by omega) (by omega), qo (i := a + max 0 (s.1 - r.1)) (by omega) (by omega), qo (i := a + min r.2.1 (s.2 - r.1)) (by omega) (by omega)]
  cases hb : r.2.2
  ·rw [qD8 hg a s hb] at he
   rw [qg]
   by_cases h : max 0 (s.1 - r.1) < min r.2.1 (s.2 - r.1)
   ·rw [qd h] at he
    rw [qA h, qi, qd (by rw [qk]; omega), qd ⟨hx0, hx⟩]
    exact ih (i + 1) j _ _ (by omega) (by omega) (by omega) (by omega) (by rw [qn, qk]; omega) he
   ·rw [qm h, qY] at he
    rw [qx h, qg, qd ⟨hx0, hx⟩]
    exact ih (i + 1) j _ _ (by omega) (by omega) (by omega) (by omega) (by omega) he
  ·rw [qCc hg a s hb] at he
   rw [qi, qd ⟨hx0, hx, hx0, hx, hx0, hx⟩]
   by_cases h : max 0 (r.1 - s.2 + 1) < min r.2.1 (r.1 - s.1 + 1)
   ·rw [qd h] at he
    rw [qA h, qi, qd (by rw [qk]; omega), qd ⟨hx0, hx⟩]
    exact ih (i + 1) j _ _ (by omega) (by omega) (by omega) (by omega) (by rw [qn, qk]; omega) he
   ·rw [qm h, qY] at he
    rw [qx h, qg, qd ⟨hx0, hx⟩]
    exact ih (i + 1) j _ _ (by omega) (by omega) (by omega) (by omega) (by omega) he
theorem qhJ (k : Nat) (hk : 2100 ≤ k) (m : List Rn) (s : Sp) : qji k m s = some (zP m s) := by
 unfold qji zP
 rw [vM k (by omega), Qu k (by omega), qb, qd rfl, qp6]
 by_cases h1 : chk m = 0
 ·have hc := wW.1 h1
  have hl := hc.len
  rw [show (chk m != 0) = false by simp [h1], qg, qm (fun h : chk m ≠ 0 => h h1)]
  by_cases h2 : s.1 < 0 ∨ s.1 > s.2 ∨ s.2 > 17179869184
  ·rw [qA h2, qi, qd h2]
  ·rw [qx h2, qg, qm h2]
   exact qtD k hk m hc s ⟨by omega, by omega⟩ ⟨by omega, by omega⟩ m.length 0 k 0 [] (by omega) (by omega) (by omega) (by omega) (by simp) rfl
 ·rw [show (chk m != 0) = true from bne_iff_ne.2 h1, qi, qd h1]
theorem qrD (k : Nat) (hk : 2100 ≤ k) (m : List Rn) (s : Sp) : ql8 k m s = zP m s := by
 unfold ql8; rw [qhJ k hk]; rfl
theorem qco {l : List Ro} {W L id : Int} (h : (qV l W L id).2 = 0) : Reg l W L ∧ CutIn l W L id (qV l W L id).1 512 := by
 have hz : Qh l W L id = 0 := by
  unfold qV at h
  by_cases h2 : Qh l W L id = 0
  ·exact h2
  ·rw [qd h2] at h; exact absurd h h2
 obtain ⟨reg, kn⟩ := Xh.1 hz
 have hC : qV l W L id = W7 l W L 512 id := by unfold qV; rw [qm (fun h => h hz)]
 refine ⟨reg, qLk reg 512 id _ (reg.anc kn) ?_⟩
 rw [← hC, ← h]
end Go.AM
namespace Go.AM
open Go Go.Proofs
noncomputable section
def qsD (r : T21.T × Bool) : AV := .tup [.agg (qy (qr T21 r.1)), rb r.2]
abbrev qE4 (a : T4.T) (b : Int) (d : Int) (r : T21.T × Bool) : Prop := CC Tryz.prog 148 [.agg (qy (qr T4 a)), ri b, ri d] [] (qsD r) (nb r)
def qeK (k : Nat) (a : T4.T) (b : Int) (d : Int) : Option (T21.T × Bool) :=
 bif a.2.2.1 then
 some ((qa .i64 (a.2.1 - qa .i64 ((if qa .i64 (a.1 + a.2.1) < d then qa .i64 (a.1 + a.2.1) else d) - a.1)), qa .i64 (a.2.1 - qa .i64 ((if a.1 > b then a.1 else b) - a.1))), decide (qa .i64 (a.2.1 - qa .i64 ((if qa .i64 (a.1 + a.2.1) < d then qa .i64 (a.1 + a.2.1) else d) - a.1)) < qa .i64 (a.2.1 - qa .i64 ((if a.1 > b then a.1 else b) - a.1))))
 else
 some ((qa .i64 ((if a.1 > b then a.1 else b) - a.1), qa .i64 ((if qa .i64 (a.1 + a.2.1) < d then qa .i64 (a.1 + a.2.1) else d) - a.1)), decide (qa .i64 ((if a.1 > b then a.1 else b) - a.1) < qa .i64 ((if qa .i64 (a.1 + a.2.1) < d then qa .i64 (a.1 + a.2.1) else d) - a.1)))
def qhA := fun k a b d => (qeK k a b d).getD ((T21).dflt, false)
def qKI (k : Nat) : Ke := (148, mo 3, fun
 | [.agg e, .r (.v (.int .i64 b)), .r (.v (.int .i64 d))], [] => (qW [] T4 e).bind fun a => some (.one (qsD (qhA k a b d), []))
 | _, _ => none)
theorem qJO (k a b d r) (h : qeK k a b d = some r): qE4 a b d r := qN Tryz.f148 (go (qD []) [] [] [.autoB [6, 7] true []] (qB h fun h => gL h))
theorem qJZ {k a b d} (h : (qeK k a b d).isSome): qE4 a b d (qhA k a b d) := qJ h (qJO k a b d)
def qkF (r : List T7.T × Int) : AV := .tup [ro T7 r.1, ri r.2]
abbrev qDB (a : List T5.T) (b : T23.T) (d : List T7.T) (e : Int) (r : List T7.T × Int) : Prop := CC Tryz.prog 102 [ro T5 a, .agg (qy (qr T23 b)), ro T7 d, ri e] [] (qkF r) (nb r)
def qD5 := fun y0 y1 y2 y3 => (⟨qI 120 [(2, ro T7 y0), (10, .ptr 1000000 0 0), (13, .own 1000001 0), (14, ri y1)], [(1000000, 0, .var 45 (qy (qr T4 y2))), (1000001, 0, .row 127 T7 y3)]⟩ : St)
def qxK := fun y0 y1 y2 y3 y4 y5 y6 => (⟨qI 120 [(2, ro T7 y0), (10, .ptr 1000000 0 0), (13, .own 1000001 0), (14, ri y1), (15, .ptr 1000002 0 0), (17, ro T21 y2), (19, ri y3)], [(1000000, 0, .var 45 (qy (qr T4 y4))), (1000001, 0, .row 127 T7 y5), (1000002, 0, .var 91 (qy (qr T21 y6)))]⟩ : St)
mutual
def WI (k : Nat) : Nat → List T7.T → Int → T4.T → List T7.T → Option (List T7.T × Int)
 | 0, _, _, _, _ => none
 | j + 1, y0, y1, y2, y3 =>
 bif y1 < y0.length then
 if (0 ≤ y1) ∧ (y1 < y0.length) ∧ (0 ≤ y1) ∧ (y1 < y0.length) ∧ ((qeK k y2 (y0.getD y1.toNat T7.dflt).1.1 (y0.getD y1.toNat T7.dflt).1.2.1).isSome) then
 bif (! (qhA k y2 (y0.getD y1.toNat T7.dflt).1.1 (y0.getD y1.toNat T7.dflt).1.2.1).2) then
 WI k j y0 (qa .i64 (y1 + 1)) y2 y3
 else
 if (0 ≤ y1) ∧ (y1 < y0.length) ∧ (0 ≤ y1) ∧ (y1 < y0.length) ∧ ((qji k y2.2.2.2 (y0.getD y1.toNat T7.dflt).1.2.2).isSome) then
 ZS k j y0 y1 ((ql8 k y2.2.2.2 (y0.getD y1.toNat T7.dflt).1.2.2).1) 0 y2 y3 ((qhA k y2 (y0.getD y1.toNat T7.dflt).1.1 (y0.getD y1.toNat T7.dflt).1.2.1).1)
 else none
 else none
 else
 bif (↑y3.length : Int) > (128 : Int) then
 some ([], 8)
 else
 some (y3, 0)
def ZS (k : Nat) : Nat → List T7.T → Int → List T21.T → Int → T4.T → List T7.T → T21.T → Option (List T7.T × Int)
 | 0, _, _, _, _, _, _, _ => none
 | j + 1, y0, y1, y2, y3, y4, y5, y6 =>
 bif y3 < y2.length then
 if (0 ≤ y3) ∧ (y3 < y2.length) ∧ (0 ≤ y3) ∧ (y3 < y2.length) then
 if (0 ≤ y1) ∧ (y1 < y0.length) ∧ (0 ≤ y1) ∧ (y1 < y0.length) ∧ ((y5.length + [((y6.1, y6.2, y2.getD y3.toNat T21.dflt), (y0.getD y1.toNat T7.dflt).2)].length) * (48 : Nat) ≤ (140737488355328 : Nat)) then
 ZS k j y0 y1 y2 (qa .i64 (y3 + 1)) y4 (y5 ++ [((y6.1, y6.2, y2.getD y3.toNat T21.dflt), (y0.getD y1.toNat T7.dflt).2)]) y6
 else none
 else none
 else
 WI k j y0 (qa .i64 (y1 + 1)) y4 y5
end
def qeJ (k : Nat) (a : List T5.T) (b : T23.T) (d : List T7.T) (e : Int) : Option (List T7.T × Int) :=
 if ((wT k a b e).isSome) then
 bif ((vN k a b e).2 != (0 : Int)) then
 some ([], (vN k a b e).2)
 else
 if ((qcf k d).isSome) then
 bif (qaI k d != (0 : Int)) then
 some ([], qaI k d)
 else
 WI k k d 0 ((vN k a b e).1) ([])
 else none
 else none
def XM := fun k a b d e => (qeJ k a b d e).getD ([], 0)
def qKW (k : Nat) : Ke := (102, mo 4, fun
 | [.r (.ro m f), .agg l, .r (.ro n i), .r (.v (.int .i64 e))], [] => (qE m T5 f).bind fun a => (qW [] T23 l).bind fun b => (qE n T7 i).bind fun d => some (.one (qkF (XM k a b d e), []))
 | _, _ => none)
def qzY (k : Nat) : Calld := qD [qoe k, qpg k, qKI k, qNY k]
def qw6 : List (Nat × List Cmd) := [(9, [.row 13 127 T7, .autoB [2, 10, 13, 14] false []]), (15, [.row 13 127 T7, .autoB [2, 10, 13, 14, 15, 17, 19] false []])]
abbrev qCY := EP Tryz.f102 0 qkF nb
theorem qwN (k) : ∀ j, (∀ {y0 y1 y2 y3}, qCY 9 (qD5 y0 y1 y2 y3) (WI k j y0 y1 y2 y3)) ∧ (∀ {y0 y1 y2 y3 y4 y5 y6}, qCY 15 (qxK y0 y1 y2 y3 y4 y5 y6) (ZS k j y0 y1 y2 y3 y4 y5 y6))
 | 0 => by and_intros <;> intros <;> exact e0
 | j + 1 => by
  have ih := @qwN k j
  have g := @go (qzY k) [] qw6 [.frz 8 false (RTy.list T7), .autoB [8, 9] true []]
  refine ⟨?_, ?_⟩
  ·intro y0 y1 y2 y3 r h
   rw [WI] at h
   exact g (gS h (fun h => gN h (fun q => qf q.1 (qf q.2.1 (qf q.2.2.1 (qf q.2.2.2.1 (qf (qJZ q.2.2.2.2) qR))))) fun h => gS h (fun h => gD h 9 ih.1) fun h => gN h (fun q => qf q.1 (qf q.2.1 (qf q.2.2.1 (qf q.2.2.2.1 (qf (qNu q.2.2.2.2) qR))))) fun h => gD h 15 ih.2) fun h => qB h fun h => gL h)
  ·intro y0 y1 y2 y3 y4 y5 y6 r h
   rw [ZS] at h
   exact g (gS h (fun h => gN h Xs fun h => gN h (fun q => qf q.1 (qf q.2.1 (qf q.2.2.1 (qf q.2.2.2.1 (qf q.2.2.2.2 qR))))) fun h => gD h 15 ih.2) fun h => gD h 9 ih.1)
theorem qME (k a b d e r) (h : qeJ k a b d e = some r): qDB a b d e r := qN Tryz.f102 (go (qzY k) [] qw6 [.frz 8 false (RTy.list T7), .autoB [8, 9] true []] (qu h qxr fun h => qB h fun h => qu h qxu fun h => qB h fun h => gD h 9 (qwN k k).1))
theorem qLB {k a b d e} (h : (qeJ k a b d e).isSome): qDB a b d e (XM k a b d e) := qJ h (qME k a b d e)
end
def acL (c : Ch) (a b : Int) : Int := if c.2.2.1 = true then c.2.1 - (b - c.1) else a - c.1
def acR (c : Ch) (a b : Int) : Int := if c.2.2.1 = true then c.2.1 - (a - c.1) else b - c.1
def qn4 (c : Ch) (x : wP) : List wP := if max x.1.1 c.1 ≥ min x.1.2.1 (c.1 + c.2.1) then [] else
 (zP c.2.2.2 x.1.2.2).1.map fun s => ((acL c (max x.1.1 c.1) (min x.1.2.1 (c.1 + c.2.1)), acR c (max x.1.1 c.1) (min x.1.2.1 (c.1 + c.2.1)), s), x.2)
def Qp (c : Ch) : List wP → List wP
 | [] => []
 | x :: t => qn4 c x ++ Qp c t
theorem quc {m : List Rn} (hc : Chk m) {x : wP} (hx : SpotOk x) : (zP m x.1.2.2).2 = 0 ∧ (zP m x.1.2.2).1.length ≤ 256 := by
 obtain ⟨⟨a, b, c, d, e, f⟩, _, _, _, _⟩ := hx
 unfold zP
 rw [qm (fun h => h (wW.2 hc)), qm (by omega)]
 refine ⟨rfl, ?_⟩
 have h1 := qcd (qiW hc x.1.2.2)
 have h2 := qkJ m 0 x.1.2.2
 have h3 := hc.len
 show (nf (Qr m 0 x.1.2.2)).length ≤ 256
 omega
theorem qGj (k : Nat) (a b : Int) (sp : List wP) (len i : Int) (fo : List Sp) (c : Ch) (x : wP) (hf : fo.length ≤ 256) : ∀ (d q n : Nat) (out : List wP), q + d = fo.length → out.length ≤ 100000 + q →
  Zy k (n + d + 1) a b sp len i fo (fo.length : Int) (q : Int) c out x = Ve k n sp len (qa .i64 (i + 1)) c (out ++ (fo.drop q).map fun s => ((a, b, s), x.2)) := by
 intro d
 induction d with
 | zero =>
  intro q n out hq ho
  rw [Zy, qx (by omega : ¬ (q : Int) < (fo.length : Int)), qg, qh (by omega), List.map_nil, qY]
 | succ d ih =>
  intro q n out hq ho
  rw [show n + (d + 1) + 1 = (n + d + 1) + 1 from rfl, Zy, qA (by omega : (q : Int) < (fo.length : Int)), qi, qd ⟨by omega, by omega⟩, qc, qd (by rw [qk]; omega), qF q (by omega), ih (q + 1) n _ (by omega) (by rw [qn, qk]; omega), qq fo q T21.dflt (by omega), List.map_cons, qw]
  rfl
set_option maxRecDepth 20000 in
theorem qJX (k : Nat) (hk : 2100 ≤ k) (sp : List wP) (hs : ∀ x ∈ sp, SpotOk x) (hsl : sp.length ≤ 128) (c : Ch) (c0 : 0 ≤ c.1) (c1 : c.1 + c.2.1 ≤ 12000) (c2 : 0 ≤ c.2.1) (hc : Chk c.2.2.2) : ∀ (d i j : Nat) (out : List wP), i + d = sp.length → d * 258 < j → out.length ≤ i * 256 →
  Ve k j sp (sp.length : Int) (i : Int) c out = some (if (out ++ Qp c (sp.drop i)).length > 128 then ([], 8) else (out ++ Qp c (sp.drop i), 0)) := by
 intro d
 induction d with
 | zero =>
  intro i j out hi hj ho
  obtain ⟨j, rfl⟩ := qQ (by omega : 0 < j)
  rw [Ve, qx (by omega : ¬ (i : Int) < (sp.length : Int)), qg, qh (by omega), Qp, qY]
  by_cases h : out.length > 128
  ·rw [qA (by omega : (out.length : Int) > 128), qd h]; rfl
  ·rw [qx (by omega : ¬ (out.length : Int) > 128), qm h]; rfl
 | succ d ih =>
  intro i j out hi hj ho
  have hx : SpotOk (sp.getD i T7.dflt) := hs _ (w8 _ _ _ (by omega))
  obtain ⟨j, rfl⟩ := qQ (by omega : 0 < j)
  rw [Ve, qA (by omega : (i : Int) < (sp.length : Int)), qi, qd ⟨by omega, by omega⟩, qc, qq sp i T7.dflt (by omega), Qp]
  generalize sp.getD i T7.dflt = x at *
  obtain ⟨f1, f2⟩ := quc hc hx
  obtain ⟨⟨x1, x2, x3, x4, x5, x6⟩, _, _, _, _⟩ := _root_.id hx
  rw [qo (i := c.1 + c.2.1) (by omega) (by omega), qnn, qjl]
  have ha : qjd k c (max x.1.1 c.1) (min x.1.2.1 (c.1 + c.2.1)) = some (acL c (max x.1.1 c.1) (min x.1.2.1 (c.1 + c.2.1)), acR c (max x.1.1 c.1) (min x.1.2.1 (c.1 + c.2.1))) := by
   unfold qjd acL acR
   rw [qo (i := min x.1.2.1 (c.1 + c.2.1) - c.1) (by omega) (by omega), qo (i := max x.1.1 c.1 - c.1) (by omega) (by omega), qo (by omega) (by omega), qo (by omega) (by omega)]
   cases c.2.2.1 <;> rfl
  unfold qn4
  by_cases h : max x.1.1 c.1 ≥ min x.1.2.1 (c.1 + c.2.1)
  ·rw [qA h, qi, qd h, qH, qF i (by omega)]
   exact ih (i + 1) j out (by omega) (by omega) (by omega)
  ·obtain ⟨j, rfl⟩ : ∃ q, j = q + (zP c.2.2.2 x.1.2.2).1.length + 1 := ⟨j - (zP c.2.2.2 x.1.2.2).1.length - 1, by omega⟩
   have h18 := qGj k (acL c (max x.1.1 c.1) (min x.1.2.1 (c.1 + c.2.1))) (acR c (max x.1.1 c.1) (min x.1.2.1 (c.1 + c.2.1))) sp (sp.length : Int) (i : Int) (zP c.2.2.2 x.1.2.2).1 c x f2 (zP c.2.2.2 x.1.2.2).1.length 0 j out (by omega) (by omega)
   rw [qx h, qg, qm h]
   unfold qm9
   rw [ha, qml k hk, qy2 k hk, qb, qd rfl, qb, qd rfl, f1]
   show Zy k (j + (zP c.2.2.2 x.1.2.2).1.length + 1) _ _ sp _ _ (zP c.2.2.2 x.1.2.2).1 _ 0 c out x = _
   refine h18.trans ?_
   rw [wm, qF i (by omega), ih (i + 1) j _ (by omega) (by omega) (by rw [qn, List.length_map]; omega), qw]
def zz (l : List Ro) (W L : Int) (sp : List wP) (id : Int) : List wP × Int :=
 if (qV l W L id).2 ≠ 0 then ([], (qV l W L id).2) else if zI sp ≠ 0 then ([], zI sp)
 else if (Qp (qV l W L id).1 sp).length > 128 then ([], 8) else (Qp (qV l W L id).1 sp, 0)
theorem qde (k : Nat) (hk : 300000 ≤ k) (l : List Ro) (web : Int × Int) (sp : List wP) (id : Int) : qi9 k l web sp id = some (zz l web.1 web.2 sp id) := by
 unfold qi9 zz
 rw [qiv k hk, qpt k hk, qer k (by omega), qov k (by omega), qb, qd rfl, qb, qd rfl]
 by_cases h1 : (qV l web.1 web.2 id).2 = 0
 ·obtain ⟨reg, ci⟩ := qco h1
  have hsz := reg.small 512 id
  generalize (qV l web.1 web.2 id) = o at *
  obtain ⟨c1, c2, c3, c4, c5, _⟩ := ci
  have hw := reg.w
  rw [show (o.2 != 0) = false by simp [h1], qg, qm (fun h : o.2 ≠ 0 => h h1)]
  by_cases h2 : zI sp = 0
  ·obtain ⟨s1, s2⟩ := qdC h2
   rw [show (zI sp != 0) = false by simp [h2], qg, qm (fun h : zI sp ≠ 0 => h h2)]
   have hwid : 0 ≤ o.1.2.1 := by
    by_cases h : 0 ≤ o.1.2.1
    ·exact h
    ·exfalso
     rw [c3] at h
     unfold wn at h
     by_cases h0 : id = 0
     ·rw [qd h0] at h; exact h (by show 0 ≤ web.1; omega)
     ·rw [qm h0] at h
      cases e : look l id with
      | none => rw [e] at h; exact h (Wg _)
      | some r =>
       rw [e] at h
       have := (reg.wl r (zt e).1).w0
       exact h (by show 0 ≤ r.2.2.2.1; omega)
   have := qJX k (by omega) sp s2 s1 o.1 c1 (by omega) hwid c4 sp.length 0 k [] (by omega) (by omega) (by simp)
   exact this
  ·rw [bne_iff_ne.2 h2, qd h2]; rfl
 ·rw [bne_iff_ne.2 h1, qd h1]; rfl
theorem qmg (k : Nat) (hk : 300000 ≤ k) (l : List Ro) (web : Int × Int) (sp : List wP) (id : Int) : qc0 k l web sp id = zz l web.1 web.2 sp id := by
 unfold qc0; rw [qde k hk]; rfl
theorem qmK {l : List Ro} {W L id : Int} {sp : List wP} : (zz l W L sp id).1.length ≤ 128 := by
 unfold zz
 by_cases h1 : (qV l W L id).2 ≠ 0
 ·rw [qd h1]; exact z8 _
 ·rw [qm h1]
  by_cases h2 : zI sp ≠ 0
  ·rw [qd h2]; exact z8 _
  ·rw [qm h2]
   by_cases h3 : (Qp (qV l W L id).1 sp).length > 128
   ·rw [qd h3]; exact z8 _
   ·rw [qm h3]; show (Qp (qV l W L id).1 sp).length ≤ 128; omega
def qhw : List wP → Int → Int
 | [], n => n
 | x :: t, n => qhw t (if x.2.2 > n then x.2.2 else n)
theorem qKe (k : Nat) (l : List wP) (hl : l.length ≤ 128) : ∀ (d i j : Nat) (n : Int), i + d = l.length → d < j → YH k j n l (l.length : Int) (i : Int) = some (qhw (l.drop i) n, 0) := by
 intro d
 induction d with
 | zero =>
  intro i j n hi hj
  obtain ⟨j, rfl⟩ := qQ (by omega : 0 < j)
  rw [YH, qx (by omega : ¬ (i : Int) < (l.length : Int)), qg, qh (by omega)]; rfl
 | succ d ih =>
  intro i j n hi hj
  obtain ⟨j, rfl⟩ := qQ (by omega : 0 < j)
  rw [YH, qA (by omega : (i : Int) < (l.length : Int)), qi, qd ⟨by omega, by omega⟩, qc, qF i (by omega), qq l i T7.dflt (by omega), qhw, ih (i + 1) j _ (by omega) (by omega)]
def Q8 (l : List Ro) (W L : Int) (sp : List wP) (id : Int) : Int × Int := if (zz l W L sp id).2 ≠ 0 then (0, (zz l W L sp id).2) else (qhw (zz l W L sp id).1 0, 0)
theorem qcU (k : Nat) (hk : 300000 ≤ k) (l : List Ro) (web : Int × Int) (sp : List wP) (id : Int) : qjW k l web sp id = some (Q8 l web.1 web.2 sp id) := by
 have hl := qmK (l := l) (W := web.1) (L := web.2) (id := id) (sp := sp)
 unfold qjW Q8
 rw [qde k hk, qmg k hk, qb, qd rfl]
 by_cases h : (zz l web.1 web.2 sp id).2 = 0
 ·rw [show ((zz l web.1 web.2 sp id).2 != 0) = false by simp [h], qg, qm (fun h' : (zz l web.1 web.2 sp id).2 ≠ 0 => h' h)]
  exact qKe k _ hl (zz l web.1 web.2 sp id).1.length 0 k 0 (by omega) (by omega)
 ·rw [bne_iff_ne.2 h, qd h]; rfl
theorem qmJ (k : Nat) (hk : 300000 ≤ k) (l : List Ro) (web : Int × Int) (sp : List wP) (id : Int) : qgk k l web sp id = Q8 l web.1 web.2 sp id := by
 unfold qgk; rw [qcU k hk]; rfl
end Go.AM
namespace Go.AM
open Go Go.Proofs
noncomputable section
def qkP (r : Int × Int) : AV := .tup [ri r.1, ri r.2]
abbrev qDD (a : List T7.T) (r : Int × Int) : Prop := CC Tryz.prog 139 [ro T7 a] [] (qkP r) (nb r)
def qEO := fun y0 y1 y2 => (⟨qI 26 [(0, ro T7 y0), (5, ri y1), (6, ri y2)], []⟩ : St)
def VV (k : Nat) : Nat → List T7.T → Int → Int → Option (Int × Int)
 | 0, _, _, _ => none
 | j + 1, y0, y1, y2 =>
 bif y2 < y0.length then
 if (0 ≤ y2) ∧ (y2 < y0.length) then
 VV k j y0 (if (y0.getD y2.toNat T7.dflt).2.2 > y1 then (y0.getD y2.toNat T7.dflt).2.2 else y1) (qa .i64 (y2 + 1))
 else none
 else
 some (y1, 0)
def qd2 (k : Nat) (a : List T7.T) : Option (Int × Int) :=
 if ((qcf k a).isSome) then
 bif (qaI k a != (0 : Int)) then
 some (0, qaI k a)
 else
 VV k k a 0 0
 else none
def qel := fun k a => (qd2 k a).getD (0, 0)
def qMs (k : Nat) : Ke := (139, mo 1, fun
 | [.r (.ro d b)], [] => (qE d T7 b).bind fun a => some (.one (qkP (qel k a), []))
 | _, _ => none)
def qvx : List (Nat × List Cmd) := [(6, [.autoB [0, 5, 6] false []])]
abbrev qPM := EP Tryz.f139 0 qkP nb
theorem qu7 (k) : ∀ j, (∀ y0 y1 y2, qPM 6 (qEO y0 y1 y2) (VV k j y0 y1 y2))
 | 0 => by intros; exact e0
 | j + 1 => by
  have ih := @qu7 k j
  ·intro y0 y1 y2 r h
   rw [VV] at h
   exact go (qD [qpg k]) [] qvx [.autoB [2, 3] true []] (gS h (fun h => qS h fun h => gC h 6 (ih _ _ _ _)) fun h => gL h)
theorem qMO (k a r) (h : qd2 k a = some r): qDD a r := qN Tryz.f139 (go (qD [qpg k]) [] qvx [.autoB [2, 3] true []] (qu h qxu fun h => qB h fun h => gC h 6 ((qu7 k k) _ _ _ _)))
theorem qMW {k a} (h : (qd2 k a).isSome): qDD a (qel k a) := qJ h (qMO k a)
def qsl (r : Int × Int) : AV := .tup [ri r.1, ri r.2]
abbrev qEv (a : List T5.T) (b : T23.T) (d : List T7.T) (e : Int) (r : Int × Int) : Prop := CC Tryz.prog 98 [ro T5 a, .agg (qy (qr T23 b)), ro T7 d, ri e] [] (qsl r) (nb r)
def qed (k : Nat) (a : List T5.T) (b : T23.T) (d : List T7.T) (e : Int) : Option (Int × Int) :=
 if ((qeJ k a b d e).isSome) then
 bif ((XM k a b d e).2 != (0 : Int)) then
 some (0, (XM k a b d e).2)
 else
 if ((qd2 k (XM k a b d e).1).isSome) then
 some ((qel k (XM k a b d e).1).1, (qel k (XM k a b d e).1).2)
 else none
 else none
def qbC := fun k a b d e => (qed k a b d e).getD (0, 0)
def qJs (k : Nat) : Ke := (98, mo 4, fun
 | [.r (.ro l f), .agg i, .r (.ro m g), .r (.v (.int .i64 e))], [] => (qE l T5 f).bind fun a => (qW [] T23 i).bind fun b => (qE m T7 g).bind fun d => some (.one (qsl (qbC k a b d e), []))
 | _, _ => none)
theorem qJV (k a b d e r) (h : qed k a b d e = some r): qEv a b d e r := qN Tryz.f98 (go (qD [qKW k, qMs k]) [] [] [.autoB [8, 9] true []] (qu h qLB fun h => qB h fun h => qu h qMW fun h => gL h))
theorem qMi {k a b d e} (h : (qed k a b d e).isSome): qEv a b d e (qbC k a b d e) := qJ h (qJV k a b d e)
end
theorem Nr.pos : ∀ {b : Int} {l : List Sp}, Nr b l → ∀ s ∈ l, s.1 < s.2
 | _, [], _, s, hs => by simp at hs
 | b, u :: t, ⟨_, h2, h3⟩, s, hs => by
  rcases qK.1 hs with e | h
  ·rw [e]; exact h2
  ·exact Nr.pos h3 s h
theorem qFx {m : List Rn} (hc : Chk m) {x : wP} (hx : SpotOk x) {s : Sp} (hs : s ∈ (zP m x.1.2.2).1) : 0 ≤ s.1 ∧ s.1 < s.2 ∧ s.2 ≤ 17179869184 := by
 obtain ⟨⟨a, b, c, d, e, f⟩, _, _, _, _⟩ := hx
 unfold zP at hs
 rw [qm (fun h => h (wW.2 hc)), qm (by omega)] at hs
 have h1 := (qcX (qiW hc x.1.2.2)).mem s hs
 have h2 := (qjB (qiW hc x.1.2.2)).pos s hs
 exact ⟨h1.1, h2, h1.2.2⟩
theorem qGI {c : Ch} {x y : wP} (h : y ∈ qn4 c x) : max x.1.1 c.1 < min x.1.2.1 (c.1 + c.2.1) ∧ ∃ s ∈ (zP c.2.2.2 x.1.2.2).1, y = ((acL c (max x.1.1 c.1) (min x.1.2.1 (c.1 + c.2.1)), acR c (max x.1.1 c.1) (min x.1.2.1 (c.1 + c.2.1)), s), x.2) := by
 unfold qn4 at h
 by_cases h1 : max x.1.1 c.1 ≥ min x.1.2.1 (c.1 + c.2.1)
 ·rw [qd h1] at h; exact absurd h (List.not_mem_nil)
 ·rw [qm h1] at h
  obtain ⟨s, hs, e⟩ := List.mem_map.1 h
  exact ⟨by omega, s, hs, e.symm⟩
theorem qtv {c : Ch} : ∀ {sp : List wP} {y : wP}, y ∈ Qp c sp → ∃ x ∈ sp, y ∈ qn4 c x
 | [], y, h => by simp [Qp] at h
 | x :: t, y, h => by
  unfold Qp at h
  rcases zW.1 h with h | h
  ·exact ⟨x, by simp, h⟩
  ·obtain ⟨z, hz, hy⟩ := qtv h
   exact ⟨z, by simp [hz], hy⟩
theorem qSG {c : Ch} {a b : Int} (h0 : c.1 ≤ a) (h1 : a < b) (h2 : b ≤ c.1 + c.2.1) : 0 ≤ acL c a b ∧ acL c a b < acR c a b ∧ acR c a b ≤ c.2.1 := by
 unfold acL acR
 cases c.2.2.1
 ·rw [qm (by decide), qm (by decide)]; omega
 ·rw [qd rfl, qd rfl]; omega
theorem qJL {c : Ch} (c1 : c.2.1 ≤ 12000) (hc : Chk c.2.2.2) {sp : List wP} (hs : ∀ x ∈ sp, SpotOk x) : ∀ y ∈ Qp c sp, SpotOk y := fun y hy => by
 obtain ⟨x, hx, hy⟩ := qtv hy
 have ok := hs x hx
 obtain ⟨h1, s, h2, e⟩ := qGI hy
 obtain ⟨f1, f2, f3⟩ := qFx hc ok h2
 obtain ⟨a1, a2, a3⟩ := qSG (c := c) (a := max x.1.1 c.1) (b := min x.1.2.1 (c.1 + c.2.1)) (by omega) h1 (by omega)
 obtain ⟨_, _, _, k, l⟩ := ok
 subst e
 exact ⟨⟨a1, by show acL _ _ _ ≤ acR _ _ _; omega, by show acR _ _ _ ≤ 12000; omega, f1, by show s.1 ≤ s.2; omega, f3⟩, a2, f2, k, l⟩
theorem qFg {x : wP} (h : SpotOk x) : Ww x = 0 := by
 obtain ⟨⟨a, b, c, d, e, f⟩, g, i, ⟨j1, j2⟩, l1, l2⟩ := h
 unfold Ww Qo Y7
 rw [qx (by omega), qx (by omega), qx (by omega), qx (by omega), qx (by omega), qx (by omega), show (x.1.1 == x.1.2.1) = false from beq_eq_false_iff_ne.2 (by omega), show (x.1.2.2.1 == x.1.2.2.2) = false from beq_eq_false_iff_ne.2 (by omega), qx (by omega), qx (by omega), qx (by omega), qx (by omega)]
 rfl
theorem qpq : ∀ {l : List wP}, (∀ x ∈ l, SpotOk x) → WP l = 0
 | [], _ => rfl
 | x :: t, h => by
  unfold WP
  rw [qFg (h x (by simp))]
  exact qpq fun y hy => h y (by simp [hy])
theorem qzJ {l : List wP} (hl : l.length ≤ 128) (h : ∀ x ∈ l, SpotOk x) : zI l = 0 := by
 unfold zI
 rw [qm (by omega)]
 exact qpq h
theorem qAz {l : List Ro} {W L id : Int} (reg : Reg l W L) : 0 ≤ (wn l W L id).1 := by
 have hw := reg.w
 unfold wn
 by_cases h0 : id = 0
 ·rw [qd h0]; show 0 ≤ W; omega
 ·rw [qm h0]
  cases e : look l id with
  | none => exact Wg _
  | some r =>
   have := (reg.wl r (zt e).1).w0
   show 0 ≤ r.2.2.2.1; omega
theorem qFO {l : List Ro} {W L id : Int} {sp : List wP} : ∀ y ∈ (zz l W L sp id).1, SpotOk y := by
 unfold zz
 by_cases h1 : (qV l W L id).2 ≠ 0
 ·rw [qd h1]; intro y hy; exact absurd hy (List.not_mem_nil)
 ·rw [qm h1]
  by_cases h2 : zI sp ≠ 0
  ·rw [qd h2]; intro y hy; exact absurd hy (List.not_mem_nil)
  ·rw [qm h2]
   by_cases h3 : (Qp (qV l W L id).1 sp).length > 128
   ·rw [qd h3]; intro y hy; exact absurd hy (List.not_mem_nil)
   ·rw [qm h3]
    obtain ⟨reg, ci⟩ := qco (Classical.not_not.1 h1)
    have hw := reg.w
    have h0 := ci.left
    have h5 := ci.right
    exact qJL (by omega) ci.chk (qdC (Classical.not_not.1 h2)).2
theorem qLM (k : Nat) (c : Ch) (a b : Int) (c0 : 0 ≤ c.1) (c1 : c.1 + c.2.1 ≤ 12000) (c2 : 0 ≤ c.2.1) (ha : 0 ≤ a ∧ a ≤ 12000) (hb : 0 ≤ b ∧ b ≤ 12000) : qeK k c a b = some ((acL c (max a c.1) (min b (c.1 + c.2.1)), acR c (max a c.1) (min b (c.1 + c.2.1))), decide (max a c.1 < min b (c.1 + c.2.1))) := by
 have e1 : (if c.1 > a then c.1 else a) = max a c.1 := by split <;> omega
 have e2 : (if c.1 + c.2.1 < b then c.1 + c.2.1 else b) = min b (c.1 + c.2.1) := by split <;> omega
 unfold qeK acL acR
 rw [qo (i := c.1 + c.2.1) (by omega) (by omega), e1, e2, qo (i := min b (c.1 + c.2.1) - c.1) (by omega) (by omega), qo (i := max a c.1 - c.1) (by omega) (by omega), qo (by omega) (by omega), qo (by omega) (by omega)]
 cases c.2.2.1
 ·rw [qg, qm (by decide), qm (by decide), decide_eq_decide.2 (by omega : min b (c.1 + c.2.1) - c.1 > max a c.1 - c.1 ↔ max a c.1 < min b (c.1 + c.2.1))]
 ·rw [qi, qd rfl, qd rfl, decide_eq_decide.2 (by omega : c.2.1 - (min b (c.1 + c.2.1) - c.1) < c.2.1 - (max a c.1 - c.1) ↔ max a c.1 < min b (c.1 + c.2.1))]
theorem qE3 (k : Nat) (A B : Int) (sp : List wP) (i : Nat) (hi : i < sp.length) (fo : List Sp) (c : Ch) (hf : fo.length ≤ 256) (hil : i ≤ 128) : ∀ (d q n : Nat) (out : List wP), q + d = fo.length → out.length ≤ 100000 + q →
  ZS k (n + d + 1) sp (i : Int) fo (q : Int) c out (A, B) = WI k n sp ((i + 1 : Nat) : Int) c (out ++ (fo.drop q).map fun s => ((A, B, s), (sp.getD i T7.dflt).2)) := by
 intro d
 induction d with
 | zero =>
  intro q n out hq ho
  rw [ZS, qx (by omega : ¬ (q : Int) < (fo.length : Int)), qg, qh (by omega), List.map_nil, qY, qF i (by omega)]
 | succ d ih =>
  intro q n out hq ho
  have h1 : (0 : Int) ≤ (q : Int) := by omega
  have h2 : (q : Int) < (fo.length : Int) := by omega
  have h3 : (0 : Int) ≤ (i : Int) := by omega
  have h4 : (i : Int) < (sp.length : Int) := by omega
  rw [show n + (d + 1) + 1 = (n + d + 1) + 1 from rfl, ZS, qA h2, qi, qd ⟨h1, h2, h1, h2⟩, qd ⟨h3, h4, h3, h4, by rw [qk]; omega⟩, qc, qc, qF q (by omega), ih (q + 1) n _ (by omega) (by rw [qn, qk]; omega), qq fo q T21.dflt (by omega), List.map_cons, qw]
  rfl
set_option maxRecDepth 20000 in
theorem qGA (k : Nat) (hk : 2100 ≤ k) (sp : List wP) (hs : ∀ x ∈ sp, SpotOk x) (hsl : sp.length ≤ 128) (c : Ch) (c0 : 0 ≤ c.1) (c1 : c.1 + c.2.1 ≤ 12000) (c2 : 0 ≤ c.2.1) (hc : Chk c.2.2.2) : ∀ (d i j : Nat) (out : List wP), i + d = sp.length → d * 258 < j → out.length ≤ i * 256 →
  WI k j sp (i : Int) c out = some (if (out ++ Qp c (sp.drop i)).length > 128 then ([], 8) else (out ++ Qp c (sp.drop i), 0)) := by
 intro d
 induction d with
 | zero =>
  intro i j out hi hj ho
  obtain ⟨j, rfl⟩ := qQ (by omega : 0 < j)
  rw [WI, qx (by omega : ¬ (i : Int) < (sp.length : Int)), qg, qh (by omega), Qp, qY]
  by_cases h : out.length > 128
  ·rw [qA (by omega : (out.length : Int) > 128), qd h]; rfl
  ·rw [qx (by omega : ¬ (out.length : Int) > 128), qm h]; rfl
 | succ d ih =>
  intro i j out hi hj ho
  have hx : SpotOk (sp.getD i T7.dflt) := hs _ (w8 _ _ _ (by omega))
  obtain ⟨j, rfl⟩ := qQ (by omega : 0 < j)
  have h3 : (0 : Int) ≤ (i : Int) := by omega
  have h4 : (i : Int) < (sp.length : Int) := by omega
  obtain ⟨f1, f2⟩ := quc hc hx
  obtain ⟨⟨x1, x2, x3, x4, x5, x6⟩, _, _, _, _⟩ := _root_.id hx
  have ha := qLM k c (sp.getD i T7.dflt).1.1 (sp.getD i T7.dflt).1.2.1 c0 c1 c2 ⟨x1, by omega⟩ ⟨by omega, x3⟩
  have hv : qhA k c (sp.getD i T7.dflt).1.1 (sp.getD i T7.dflt).1.2.1 = _ := congrArg (fun o : Option ((Int × Int) × Bool) => o.getD ((T21).dflt, false)) ha
  rw [WI, qA h4, qi, qc, ha, hv, qd ⟨h3, h4, h3, h4, rfl⟩, qq sp i T7.dflt (by omega), Qp, qRI]
  unfold qn4
  by_cases h : max (sp.getD i T7.dflt).1.1 c.1 ≥ min (sp.getD i T7.dflt).1.2.1 (c.1 + c.2.1)
  ·rw [qx (by omega : ¬ max (sp.getD i T7.dflt).1.1 c.1 < min (sp.getD i T7.dflt).1.2.1 (c.1 + c.2.1)), qd1, qi, qd h, qH, qF i (by omega)]
   exact ih (i + 1) j out (by omega) (by omega) (by omega)
  ·rw [qA (by omega : max (sp.getD i T7.dflt).1.1 c.1 < min (sp.getD i T7.dflt).1.2.1 (c.1 + c.2.1)), vB, qg, qm h]
   obtain ⟨j, rfl⟩ : ∃ q, j = q + (zP c.2.2.2 (sp.getD i T7.dflt).1.2.2).1.length + 1 := ⟨j - (zP c.2.2.2 (sp.getD i T7.dflt).1.2.2).1.length - 1, by omega⟩
   have h15 := qE3 k (acL c (max (sp.getD i T7.dflt).1.1 c.1) (min (sp.getD i T7.dflt).1.2.1 (c.1 + c.2.1))) (acR c (max (sp.getD i T7.dflt).1.1 c.1) (min (sp.getD i T7.dflt).1.2.1 (c.1 + c.2.1))) sp i (by omega) (zP c.2.2.2 (sp.getD i T7.dflt).1.2.2).1 c f2 (by omega) (zP c.2.2.2 (sp.getD i T7.dflt).1.2.2).1.length 0 j out (by omega) (by omega)
   rw [qhJ k hk, qrD k hk, qd ⟨h3, h4, h3, h4, rfl⟩]
   refine h15.trans ?_
   rw [wm, ih (i + 1) j _ (by omega) (by omega) (by rw [qn, List.length_map]; omega), qw]
theorem qgM (k : Nat) (hk : 301000 ≤ k) (l : List Ro) (web : Int × Int) (sp : List wP) (id : Int) : qeJ k l web sp id = some (zz l web.1 web.2 sp id) := by
 unfold qeJ zz
 rw [qdw k hk, qkm k hk, qaL k (by omega), qgL k (by omega), qb, qd rfl, qb, qd rfl]
 by_cases h1 : (qV l web.1 web.2 id).2 = 0
 ·obtain ⟨reg, ci⟩ := qco h1
  have hsz := qAz (id := id) reg
  have hw := reg.w
  generalize (qV l web.1 web.2 id) = o at *
  obtain ⟨c1, c2, c3, c4, c5, _⟩ := ci
  rw [show (o.2 != 0) = false by simp [h1], qg, qm (fun h : o.2 ≠ 0 => h h1)]
  by_cases h2 : zI sp = 0
  ·obtain ⟨s1, s2⟩ := qdC h2
   rw [show (zI sp != 0) = false by simp [h2], qg, qm (fun h : zI sp ≠ 0 => h h2)]
   exact qGA k (by omega) sp s2 s1 o.1 c1 (by omega) (by omega) c4 sp.length 0 k [] (by omega) (by omega) (by simp)
  ·rw [bne_iff_ne.2 h2, qd h2]; rfl
 ·rw [bne_iff_ne.2 h1, qd h1]; rfl
theorem qqA (k : Nat) (hk : 301000 ≤ k) (l : List Ro) (web : Int × Int) (sp : List wP) (id : Int) : XM k l web sp id = zz l web.1 web.2 sp id := by
 unfold XM; rw [qgM k hk]; rfl
theorem qGN (k : Nat) (l : List wP) (hl : l.length ≤ 128) : ∀ (d i j : Nat) (n : Int), i + d = l.length → d < j → VV k j l n (i : Int) = some (qhw (l.drop i) n, 0) := by
 intro d
 induction d with
 | zero =>
  intro i j n hi hj
  obtain ⟨j, rfl⟩ := qQ (by omega : 0 < j)
  rw [VV, qx (by omega : ¬ (i : Int) < (l.length : Int)), qg, qh (by omega)]; rfl
 | succ d ih =>
  intro i j n hi hj
  obtain ⟨j, rfl⟩ := qQ (by omega : 0 < j)
  rw [VV, qA (by omega : (i : Int) < (l.length : Int)), qi, qd ⟨by omega, by omega⟩, qc, qF i (by omega), qq l i T7.dflt (by omega), qhw, ih (i + 1) j _ (by omega) (by omega)]
theorem qg8 (k : Nat) (hk : 300 ≤ k) (l : List wP) (hl : l.length ≤ 128) (h : ∀ x ∈ l, SpotOk x) : qd2 k l = some (qhw l 0, 0) := by
 unfold qd2
 rw [qaL k hk, qgL k hk, qzJ hl h, qb, qd rfl]
 exact qGN k l hl l.length 0 k 0 (by omega) (by omega)
theorem qg4 (k : Nat) (hk : 301000 ≤ k) (l : List Ro) (web : Int × Int) (sp : List wP) (id : Int) : qed k l web sp id = some (Q8 l web.1 web.2 sp id) := by
 have hl := qmK (l := l) (W := web.1) (L := web.2) (id := id) (sp := sp)
 have ho := qFO (l := l) (W := web.1) (L := web.2) (id := id) (sp := sp)
 have hv : qel k (zz l web.1 web.2 sp id).1 = (qhw (zz l web.1 web.2 sp id).1 0, 0) := by
  unfold qel; rw [qg8 k (by omega) _ hl ho]; rfl
 unfold qed Q8
 rw [qgM k hk, qqA k hk, qb, qd rfl]
 by_cases h : (zz l web.1 web.2 sp id).2 = 0
 ·rw [show ((zz l web.1 web.2 sp id).2 != 0) = false by simp [h], qg, qm (fun h' : (zz l web.1 web.2 sp id).2 ≠ 0 => h' h), qg8 k (by omega) _ hl ho, hv, qb, qd rfl]
 ·rw [bne_iff_ne.2 h, qd h]; rfl
theorem qqF (k : Nat) (hk : 301000 ≤ k) (l : List Ro) (web : Int × Int) (sp : List wP) (id : Int) : qbC k l web sp id = Q8 l web.1 web.2 sp id := by
 unfold qbC; rw [qg4 k hk]; rfl
theorem qGX {r : Rn} {t : List Rn} {x : Int} (h : x < r.2.1) : wb (r :: t) x = wh r x := by unfold wb; rw [qd h]
theorem qGc {r : Rn} {t : List Rn} {x : Int} (h : ¬ x < r.2.1) : wb (r :: t) x = wb t (x - r.2.1) := by rw [wb, qm h]
theorem qLQ {r : Rn} (g : good r) {z : Int} (h0 : lo r ≤ z) (h1 : z ≤ Go.AM.hi r) : ∃ x, 0 ≤ x ∧ x < r.2.1 ∧ wh r x = z := by
 unfold lo at h0; unfold Go.AM.hi at h1; unfold wh
 cases e : r.2.2
 ·rw [e] at h0 h1
  simp only [qG, if_false] at h0 h1 ⊢
  exact ⟨z - r.1, by omega, by omega, by omega⟩
 ·rw [e] at h0 h1
  simp only [if_true] at h0 h1 ⊢
  exact ⟨r.1 - z, by omega, by omega, by omega⟩
theorem quj : ∀ {m : List Rn} {z : Int}, goods m → (∃ r ∈ m, lo r ≤ z ∧ z ≤ Go.AM.hi r) → ∃ x, 0 ≤ x ∧ x < qv m ∧ wb m x = z
 | [], _, _, ⟨r, hr, _⟩ => by simp at hr
 | r :: t, z, ⟨g1, g2⟩, ⟨y, hy, h0, h1⟩ => by
  have hl := zf g2
  have h1' := g1.1
  rcases qK.1 hy with e | hy
  ·subst e
   obtain ⟨x, a, b, c⟩ := qLQ g1 h0 h1
   exact ⟨x, a, by rw [qv]; omega, by rw [qGX b, c]⟩
  ·obtain ⟨x, a, b, c⟩ := quj g2 ⟨y, hy, h0, h1⟩
   exact ⟨r.2.1 + x, by omega, by rw [qv]; omega, by rw [qGc (by omega), show r.2.1 + x - r.2.1 = x by omega, c]⟩
theorem qM9 {m : List Rn} (hg : goods m) {z : Int} : XP m z = true ↔ ∃ x, 0 ≤ x ∧ x < qv m ∧ wb m x = z := by
 constructor
 ·intro h; exact quj hg (qjz.1 h)
 ·rintro ⟨x, h0, h1, e⟩
  obtain ⟨r, hr, a, b⟩ := qis hg h0 h1
  subst e; exact qNt hr a b
theorem qJz {l : List Sp} (h : In 0 17179869184 l) (x : Int) : Q6 (nf l) x = Q6 l x := by
 rw [Bool.eq_iff_iff, V1, V1, qr2 h]
theorem qLb {l : List Ro} {W L id : Int} (h : (qV l W L id).2 = 0) : Kno l W L id := by
 refine Xh.1 ?_
 unfold qV at h
 by_cases h2 : Qh l W L id = 0
 ·exact h2
 ·rw [qd h2] at h; exact absurd h h2
theorem qKK {l : List Ro} {W L id : Int} (reg : Reg l W L) (kn : id = 0 ∨ ∃ q, look l id = some q) : 1 ≤ (wn l W L id).1 := by
 have hw := reg.w
 unfold wn
 rcases kn with h | ⟨r, e⟩
 ·rw [qd h]; show 1 ≤ W; omega
 ·by_cases h0 : id = 0
  ·rw [qd h0]; show 1 ≤ W; omega
  ·rw [qm h0, e]
   have := (reg.wl r (zt e).1).w0
   show 1 ≤ r.2.2.2.1; omega
end Go.AM
namespace Go.AM
open Go Go.Proofs
noncomputable section
def qk5 (r : T22.T × Int) : AV := .tup [.agg (qy (qr T22 r.1)), ri r.2]
abbrev qBE (a : T24.T) (b : Int) (r : T22.T × Int) : Prop := CC Tryz.prog 52 [.agg (qy (qr T24 a)), ri b] [] (qk5 r) (nb r)
def qyo := fun y0 y1 y2 y3 y4 y5 y6 y7 => (⟨qI 156 [(1, ri y0), (2, .ptr 1000000 0 0), (4, .ptr 1000001 0 0), (6, .ptr 1000002 0 0), (9, ro T21 y1), (11, ri y2), (12, rb y3), (13, ri y4)], [(1000000, 0, .var 108 (qy (qr T24 y5))), (1000001, 0, .var 103 (qy (qr T22 y6))), (1000002, 0, .var 45 (qy (qr T4 y7)))]⟩ : St)
def z7 (k : Nat) : Nat → Int → List T21.T → Int → Bool → Int → T24.T → T22.T → T4.T → Option (T22.T × Int)
 | 0, _, _, _, _, _, _, _, _ => none
 | j + 1, y0, y1, y2, y3, y4, y5, y6, y7 =>
 bif y4 < y1.length then
 if (0 ≤ y4) ∧ (y4 < y1.length) ∧ ((qdt k y5.2.2.1 (y1.getD y4.toNat T21.dflt)).isSome) then
 bif (decide ((Y9 k y5.2.2.1 (y1.getD y4.toNat T21.dflt)).1 < (0 : Int)) || decide (y4 > 0) && (Y9 k y5.2.2.1 (y1.getD y4.toNat T21.dflt)).1 != y2) then
 some ((0, (false, (0, (0, (0, 0))))), 22)
 else
 z7 k j y0 y1 ((Y9 k y5.2.2.1 (y1.getD y4.toNat T21.dflt)).1) (y3 && (Y9 k y5.2.2.1 (y1.getD y4.toNat T21.dflt)).2.1) (qa .i64 (y4 + 1)) y5 y6 y7
 else none
 else
 bif (decide (y2 < 0) || decide (y2 ≥ (↑ (qe y5.2.2.2.2.1) : Int))) then
 some ((0, (false, (0, (0, (0, 0))))), 22)
 else
 if ((qaD k y7.2.2.2).isSome) ∧ (0 ≤ y2) ∧ (y2 < (↑ (qe y5.2.2.2.2.1) : Int)) ∧ ((qep k y5.2.2.2.2.2 (Vm k y7.2.2.2) (qM y5.2.2.2.2.1 y2.toNat T0.dflt).2.2.2.2.2.1).isSome) then
 bif ((qbH k y5.2.2.2.2.2 (Vm k y7.2.2.2) (qM y5.2.2.2.2.1 y2.toNat T0.dflt).2.2.2.2.2.1).2 != (0 : Int)) then
 some ((0, (false, (0, (0, (0, 0))))), (qbH k y5.2.2.2.2.2 (Vm k y7.2.2.2) (qM y5.2.2.2.2.1 y2.toNat T0.dflt).2.2.2.2.2.1).2)
 else
 if ((qed k y5.1 y5.2.1 y5.2.2.2.1 y0).isSome) then
 bif ((qbC k y5.1 y5.2.1 y5.2.2.2.1 y0).2 != (0 : Int)) then
 some ((0, (false, (0, (0, (0, 0))))), (qbC k y5.1 y5.2.1 y5.2.2.2.1 y0).2)
 else
 some ((y2, (y3, (y7.2.1, ((qbH k y5.2.2.2.2.2 (Vm k y7.2.2.2) (qM y5.2.2.2.2.1 y2.toNat T0.dflt).2.2.2.2.2.1).1, (qa .i64 ((↑ (qe y7.2.2.2) : Int) - 1), (qbC k y5.1 y5.2.1 y5.2.2.2.1 y0).1))))), 0)
 else none
 else none
def qbV (k : Nat) (a : T24.T) (b : Int) : Option (T22.T × Int) :=
 if ((wT k a.1 a.2.1 b).isSome) then
 bif ((vN k a.1 a.2.1 b).2 != (0 : Int)) then
 some ((0, (false, (0, (0, (0, 0))))), (vN k a.1 a.2.1 b).2)
 else
 bif (b == 0) then
 some ((0, (false, (0, (0, (0, 0))))), 7)
 else
 if ((qfq k a.2.2.1).isSome) then
 bif (qcK k a.2.2.1 != (0 : Int)) then
 some ((0, (false, (0, (0, (0, 0))))), qcK k a.2.2.1)
 else
 bif (↑ (qe a.2.2.1) : Int) > (0 : Int) then
 if ((0 : Int) ≤ qa .i64 ((↑ (qe a.2.2.1) : Int) - (1 : Int))) ∧ (qa .i64 ((↑ (qe a.2.2.1) : Int) - (1 : Int)) < (↑ (qe a.2.2.1) : Int)) then
 bif ((qM a.2.2.1 (qa .i64 ((↑ (qe a.2.2.1) : Int) - (1 : Int))).toNat T2.dflt).2.1 != a.2.1.2) then
 some ((0, (false, (0, (0, (0, 0))))), 21)
 else
 if ((qdf k (vN k a.1 a.2.1 b).1.2.2.2).isSome) then
 z7 k k b ((XE k (vN k a.1 a.2.1 b).1.2.2.2).1) (-1) true 0 a (0, (false, (0, (0, (0, 0))))) ((vN k a.1 a.2.1 b).1)
 else none
 else none
 else
 bif ((0 : Int) != a.2.1.2) then
 some ((0, (false, (0, (0, (0, 0))))), 21)
 else
 if ((qdf k (vN k a.1 a.2.1 b).1.2.2.2).isSome) then
 z7 k k b ((XE k (vN k a.1 a.2.1 b).1.2.2.2).1) (-1) true 0 a (0, (false, (0, (0, (0, 0))))) ((vN k a.1 a.2.1 b).1)
 else none
 else none
 else none
def Q9 := fun k a b => (qbV k a b).getD ((T22).dflt, 0)
def qLJ (k : Nat) : Ke := (52, mo 2, fun
 | [.agg d, .r (.v (.int .i64 b))], [] => (qW [] T24 d).bind fun a => some (.one (qk5 (Q9 k a b), []))
 | _, _ => none)
def qFe (k : Nat) : Calld := qD [qtt k, qnQ k, qAc k, qoe k, qRg k, qJx k, qJs k]
def qvp : List (Nat × List Cmd) := [(18, [.autoB [1, 2, 4, 6, 9, 11, 12, 13] false []])]
abbrev qO4 := EP Tryz.f52 0 qk5 nb
theorem qo5 (k) : ∀ j, (∀ y0 y1 y2 y3 y4 y5 y6 y7, qO4 18 (qyo y0 y1 y2 y3 y4 y5 y6 y7) (z7 k j y0 y1 y2 y3 y4 y5 y6 y7))
 | 0 => by intros; exact e0
 | j + 1 => by
  have ih := @qo5 k j
  ·intro y0 y1 y2 y3 y4 y5 y6 y7 r h
   rw [z7] at h
   exact go (qFe k) [] qvp [.autoB [4, 5] true []] (gS h (fun h => gN h (fun q => qf q.1 (qf q.2.1 (qf (qPL q.2.2) qR))) fun h => qB h fun h => gC h 18 (ih _ _ _ _ _ _ _ _ _)) fun h => qB h fun h => gN h (fun q => qf (qox q.1) (qf q.2.1 (qf q.2.2.1 (qf (qLl q.2.2.2) qR)))) fun h => qB h fun h => qu h qMi fun h => qB h fun h => gL h)
theorem qJR (k a b r) (h : qbV k a b = some r): qBE a b r := qN Tryz.f52 (go (qFe k) [] qvp [.autoB [4, 5] true []] (qu h qxr fun h => qB h fun h => qB h fun h => qu h qCE fun h => qB h fun h => gS h (fun h => qS h fun h => qB h fun h => qu h qtE fun h => gC h 18 ((qo5 k k) _ _ _ _ _ _ _ _ _)) fun h => qB h fun h => qu h qtE fun h => gC h 18 ((qo5 k k) _ _ _ _ _ _ _ _ _)))
theorem qLp {k a b} (h : (qbV k a b).isSome): qBE a b (Q9 k a b) := qJ h (qJR k a b)
end
theorem qQK {l : List Ro} {W L : Int} (reg : Reg l W L) : ∀ (n : Nat) (p : Pt), Anc l n p.1 → On l W L p → On l W L (qgr l n p) ∧ (qgr l n p).1 = 0 := by
 intro n
 induction n with
 | zero =>
  intro p ha op
  by_cases h0 : p.1 = 0
  ·rw [qiS h0]; exact ⟨op, h0⟩
  ·obtain ⟨_, _, e, _⟩ := ha.cases h0
   cases e
 | succ n ih =>
  intro p ha op
  by_cases h0 : p.1 = 0
  ·rw [qiS h0]; exact ⟨op, h0⟩
  ·obtain ⟨k, r, ek, el, a⟩ := ha.cases h0
   cases ek
   have ro := reg.ok.ro r (zt el).1
   rw [qp5 h0 el]
   exact ih (qaz r p) a (op.place h0 el ro)
theorem qDI {l : List Ro} {W L id : Int} (h : (qV l W L id).2 = 0) {x : Int} (x0 : 0 ≤ x) (x1 : x < qv (qV l W L id).1.2.2.2) : 0 ≤ wb (qV l W L id).1.2.2.2 x ∧ wb (qV l W L id).1.2.2.2 x < L := by
 obtain ⟨reg, ci⟩ := qco h
 have kn := (qLb h).kn
 have hw := qKK reg kn
 rw [ci.len] at x1
 have on : On l W L (id, 0, x) := ⟨Wg 0, by show 0 < (wn l W L id).1; omega, x0, x1⟩
 obtain ⟨o2, _⟩ := qQK reg 512 (id, 0, x) (reg.anc kn) on
 rw [ci.web _ rfl on] at o2
 have b0 := o2.b0
 have b1 := o2.b1
 have hs : wn l W L 0 = (W, L) := by unfold wn; rw [qd rfl]
 rw [hs] at b1
 exact ⟨b0, b1⟩
theorem qpP {l : List Ro} {W L id : Int} (h : (qV l W L id).2 = 0) : (nf ((qV l W L id).1.2.2.2.map vZ)).length ≤ 256 ∧ ∀ s ∈ nf ((qV l W L id).1.2.2.2.map vZ), 0 ≤ s.1 ∧ s.1 < s.2 ∧ s.2 ≤ 17179869184 ∧ s.2 ≤ L := by
 obtain ⟨reg, ci⟩ := qco h
 have hi := qmO ci.chk.goods
 have hn := qjB hi
 refine ⟨?_, fun s hs => ?_⟩
 ·have h1 := qcd hi
  rw [List.length_map] at h1
  have := ci.chk.len
  omega
 ·have h1 := (qcX hi).mem s hs
  have h2 := hn.pos s hs
  have h3 : XP (qV l W L id).1.2.2.2 (s.2 - 1) = true := by
   show Q6 _ _ = true
   rw [← qJz hi, V1, v8]
   exact ⟨s, hs, by omega, by omega⟩
  obtain ⟨x, x0, x1, e⟩ := (qM9 ci.chk.goods).1 h3
  have := qDI h x0 x1
  exact ⟨h1.1, h2, h1.2.2, by omega⟩
abbrev Fac := Int × Bool × Int × Int × Int × Int
abbrev Grd := T0.T
def qiG (e : Int) : Fac × Int := ((0, false, 0, 0, 0, 0), e)
def qgv (gr : List Grd) (g : Int) : Int := (gr.getD g.toNat T0.dflt).2.2.2.2.2.1
def qdZ (R : List Ro) (W L : Int) (sp : List wP) (gr : List Grd) (core id : Int) (c : Ch) (g : Int) (a : Bool) : Fac × Int :=
 if g < 0 ∨ g ≥ gr.length then qiG 22
 else if (YA core (qv c.2.2.2) (qgv gr g)).2 ≠ 0 then qiG (YA core (qv c.2.2.2) (qgv gr g)).2
 else if (Q8 R W L sp id).2 ≠ 0 then qiG (Q8 R W L sp id).2
 else ((g, a, c.2.1, (YA core (qv c.2.2.2) (qgv gr g)).1, qa .i64 ((c.2.2.2.length : Int) - 1), (Q8 R W L sp id).1), 0)
def gpS (secs : List wE) (c : Ch) : Int × Bool := Qs (-1) true true (Zd secs (nf (c.2.2.2.map vZ)))
def YE (R : List Ro) (W L : Int) (secs : List wE) (sp : List wP) (gr : List Grd) (core id : Int) : Fac × Int :=
 if (qV R W L id).2 ≠ 0 then qiG (qV R W L id).2
 else if id = 0 then qiG 7
 else if vw secs ≠ 0 then qiG (vw secs)
 else if wQ secs ≠ L then qiG 21
 else qdZ R W L sp gr core id (qV R W L id).1 (gpS secs (qV R W L id).1).1 (gpS secs (qV R W L id).1).2
theorem qtp {m : List Rn} (hc : Chk m) : Vz m = (nf (m.map vZ), 0) := by
 unfold Vz
 rw [qm (fun h : chk m ≠ 0 => h (wW.2 hc))]
theorem qbY (k : Nat) (hk : 301000 ≤ k) (r : T28.T) (id : Int) : qbK k r id = some (YE r.1 r.2.1.1 r.2.1.2 r.2.2.1 r.2.2.2.1 r.2.2.2.2.1 r.2.2.2.2.2 id) := by
 unfold qbK YE
 rw [qiv k (by omega), qpt k (by omega), qb, qd rfl]
 by_cases h1 : (qV r.1 r.2.1.1 r.2.1.2 id).2 = 0
 ·obtain ⟨reg, ci⟩ := qco h1
  obtain ⟨cl, cs⟩ := qpP h1
  rw [show ((qV r.1 r.2.1.1 r.2.1.2 id).2 != 0) = false by rw [h1]; rfl, qg, qm (fun h : (qV r.1 r.2.1.1 r.2.1.2 id).2 ≠ 0 => h h1)]
  by_cases h2 : id = 0
  ·rw [qd h2, show (id == 0) = true from beq_iff_eq.2 h2]; rfl
  ·rw [qm h2, show (id == 0) = false from beq_eq_false_iff_ne.2 h2, qg, qbS k (by omega), qhG k (by omega), qb, qd rfl]
   by_cases h3 : vw r.2.2.1 = 0
   ·have hl := (Zf h3).1
    rw [show (vw r.2.2.1 != 0) = false by rw [h3]; rfl, qg, qm (fun h : vw r.2.2.1 ≠ 0 => h h3), qCB k r hl, qRw k r hl, qb, qd rfl]
    by_cases h4 : wQ r.2.2.1 = r.2.1.2
    ·have hs : ∀ s ∈ nf ((qV r.1 r.2.1.1 r.2.1.2 id).1.2.2.2.map vZ), 0 ≤ s.1 ∧ s.1 < s.2 ∧ s.2 ≤ 17179869184 ∧ s.2 ≤ wQ r.2.2.1 := fun s hs => by
      obtain ⟨a, b, c, d⟩ := cs s hs
      exact ⟨a, b, c, by omega⟩
     rw [show (wQ r.2.2.1 == r.2.1.2) = true from beq_iff_eq.2 h4, vB, qg, qm (fun h : wQ r.2.2.1 ≠ r.2.1.2 => h h4), qdF k (by omega), qkc k (by omega), qtp ci.chk, qb, qd rfl, bne_self_eq_false, qg]
     dsimp only
     rw [qvr k (by omega) r h3 _ cl hs, qLx k (by omega) r h3 _ cl hs, qb, qd rfl]
     show _ = some (qdZ _ _ _ _ _ _ _ _ (gpS r.2.2.1 (qV r.1 r.2.1.1 r.2.1.2 id).1).1 (gpS r.2.2.1 (qV r.1 r.2.1.1 r.2.1.2 id).1).2)
     rw [show Qs (-1) true true (Zd r.2.2.1 (nf ((qV r.1 r.2.1.1 r.2.1.2 id).1.2.2.2.map vZ))) = gpS r.2.2.1 (qV r.1 r.2.1.1 r.2.1.2 id).1 from rfl]
     generalize gpS r.2.2.1 (qV r.1 r.2.1.1 r.2.1.2 id).1 = gp
     unfold qdZ
     by_cases h5 : gp.1 < 0 ∨ gp.1 ≥ (qe r.2.2.2.2.1 : Int)
     ·rw [qd h5, show (decide (gp.1 < 0) || decide (gp.1 ≥ (qe r.2.2.2.2.1 : Int))) = true by rw [qJr, decide_eq_true_iff, decide_eq_true_iff]; exact h5]; rfl
     ·rw [qm h5, qx (fun h => h5 (.inl h)), qx (fun h => h5 (.inr h)), Bool.or_self, qg, qcm k (by omega) _ ci.chk, qih k (by omega) _ ci.chk, qpW k (by omega), qzu k (by omega), qb, qd rfl, qd ⟨by omega, by omega, rfl⟩, qcU k (by omega), qmJ k (by omega), qb, qd rfl]
      dsimp only
      rw [show (qM r.2.2.2.2.1 gp.1.toNat T0.dflt).2.2.2.2.2.1 = qgv r.2.2.2.2.1 gp.1 from rfl]
      by_cases h6 : (YA r.2.2.2.2.2 (qv (qV r.1 r.2.1.1 r.2.1.2 id).1.2.2.2) (qgv r.2.2.2.2.1 gp.1)).2 = 0
      ·rw [qm (fun h => h h6), show ((YA r.2.2.2.2.2 (qv (qV r.1 r.2.1.1 r.2.1.2 id).1.2.2.2) (qgv r.2.2.2.2.1 gp.1)).2 != 0) = false by rw [h6]; rfl, qg]
       by_cases h7 : (Q8 r.1 r.2.1.1 r.2.1.2 r.2.2.2.1 id).2 = 0
       ·rw [qm (fun h => h h7), show ((Q8 r.1 r.2.1.1 r.2.1.2 r.2.2.2.1 id).2 != 0) = false by rw [h7]; rfl, qg]
       ·rw [qd h7, bne_iff_ne.2 h7]; rfl
      ·rw [qd h6, bne_iff_ne.2 h6]; rfl
    ·rw [show (wQ r.2.2.1 == r.2.1.2) = false from beq_eq_false_iff_ne.2 h4, qd h4]; rfl
   ·rw [qd h3, bne_iff_ne.2 h3]; rfl
 ·rw [qd h1, bne_iff_ne.2 h1]; rfl
theorem qkZ (k : Nat) (hk : 301000 ≤ k) (r : T28.T) (id : Int) : Qe k r id = YE r.1 r.2.1.1 r.2.1.2 r.2.2.1 r.2.2.2.1 r.2.2.2.2.1 r.2.2.2.2.2 id := by
 unfold Qe; rw [qbY k hk]; rfl
theorem qyi {p : List wE} {x : wE} {t : List wE} (e : p = x :: t) : grS p = if ZJ x.2.2.2.1 t = true then x.2.2.2.1 else -1 := by
 subst e
 unfold grS
 rw [List.getD_cons_zero]
 show (if (x.2.2.2.1 == x.2.2.2.1 && ZJ x.2.2.2.1 t) = true then _ else _) = _
 rw [beq_self_eq_true, ww]
theorem qMc {g : Int} {p : List wE} (hn : p ≠ []) (h : ZJ g p = true) : grS p = g := by
 cases p with
 | nil => exact absurd rfl hn
 | cons x t =>
  obtain ⟨h1, h2⟩ := Bool.and_eq_true_iff.1 (show (x.2.2.2.1 == g && ZJ g t) = true from h)
  have e : x.2.2.2.1 = g := by simpa using h1
  rw [qyi rfl, e, qd h2]
theorem qG0 {g : Int} {p : List wE} (hn : p ≠ []) (h : ZJ g p = false) : grS p < 0 ∨ grS p ≠ g := by
 cases p with
 | nil => exact absurd rfl hn
 | cons x t =>
  rw [qyi rfl]
  by_cases e : ZJ x.2.2.2.1 t = true
  ·rw [qd e]
   right
   intro he
   rw [he] at e
   have h : (x.2.2.2.1 == g && ZJ g t) = false := h
   rw [he, beq_self_eq_true, e] at h
   cases h
  ·rw [qm e]; left; decide
def Xx (R : List Ro) (W L : Int) (secs : List wE) (sp : List wP) (gr : List Grd) (core : Int) : T24.T := (R, (W, L), secs, sp, gr, core)
theorem qlh (R : List Ro) (W L : Int) (sp : List wP) (gr : List Grd) (core id : Int) (c : Ch) {g : Int} (a : Bool) (h : g < 0) : qdZ R W L sp gr core id c g a = qiG 22 := by
 unfold qdZ; rw [qd (.inl h)]
theorem qEH (k : Nat) (hk : 301000 ≤ k) (R : List Ro) (W L : Int) (secs : List wE) (sp : List wP) (gr : List Grd) (core id : Int) (spans : List Sp) (c : Ch) (hc : Chk c.2.2.2) (g : Int) (a : Bool) (f0 : Fac) (j i : Nat) (hi : spans.length ≤ i) :
  z7 k (j + 1) id spans g a (i : Int) (Xx R W L secs sp gr core) f0 c = some (qdZ R W L sp gr core id c g a) := by
 rw [z7, qx (by omega : ¬ (i : Int) < (spans.length : Int)), qg]
 unfold qdZ Xx
 dsimp only
 by_cases h5 : g < 0 ∨ g ≥ (qe gr : Int)
 ·rw [qd h5, show (decide (g < 0) || decide (g ≥ (qe gr : Int))) = true by rw [qJr, decide_eq_true_iff, decide_eq_true_iff]; exact h5]; rfl
 ·rw [qm h5, qx (fun h => h5 (.inl h)), qx (fun h => h5 (.inr h)), Bool.or_self, qg, XW k (by omega) _ hc, qcl k (by omega) _ hc, qko k (by omega), quJ k (by omega), qd ⟨rfl, by omega, by omega, rfl⟩, qg4 k hk, qqF k hk, qb, qd rfl]
  dsimp only
  rw [show (qM gr g.toNat T0.dflt).2.2.2.2.2.1 = qgv gr g from rfl]
  by_cases h6 : (YA core (qv c.2.2.2) (qgv gr g)).2 = 0
  ·rw [qm (fun h => h h6), show ((YA core (qv c.2.2.2) (qgv gr g)).2 != 0) = false by rw [h6]; rfl, qg]
   by_cases h7 : (Q8 R W L sp id).2 = 0
   ·rw [qm (fun h => h h7), show ((Q8 R W L sp id).2 != 0) = false by rw [h7]; rfl, qg]
   ·rw [qd h7, bne_iff_ne.2 h7]; rfl
  ·rw [qd h6, bne_iff_ne.2 h6]; rfl
section
variable (k : Nat) (hk : 301000 ≤ k) (R : List Ro) (W L : Int) (secs : List wE) (hz : vw secs = 0) (sp : List wP) (gr : List Grd) (core id : Int) (spans : List Sp) (hl : spans.length ≤ 256) (hs : ∀ s ∈ spans, 0 ≤ s.1 ∧ s.1 < s.2 ∧ s.2 ≤ 17179869184 ∧ s.2 ≤ wQ secs) (c : Ch) (hc : Chk c.2.2.2) (f0 : Fac)
include hk hz hl hs hc
theorem qxG : ∀ (d i j : Nat) (g : Int) (a : Bool), i + d = spans.length → d < j → 0 < i → 0 ≤ g → z7 k j id spans g a (i : Int) (Xx R W L secs sp gr core) f0 c = some (qdZ R W L sp gr core id c (Qs g a false (Zd secs (spans.drop i))).1 (Qs g a false (Zd secs (spans.drop i))).2) := by
 intro d
 induction d with
 | zero =>
  intro i j g a hi hj h0 hg
  obtain ⟨j, rfl⟩ := qQ (by omega : 0 < j)
  rw [qEH k hk R W L secs sp gr core id spans c hc g a f0 j i (by omega), qh (by omega)]
  rfl
 | succ d ih =>
  intro i j g a hi hj h0 hg
  obtain ⟨j, rfl⟩ := qQ (by omega : 0 < j)
  obtain ⟨s0, s1, s2, s3⟩ := hs (spans.getD i T21.dflt) (w8 _ _ _ (by omega))
  have hne := qoT hz s0 s1 s3
  have hgs : qdt k (Xx R W L secs sp gr core).2.2.1 (spans.getD i T21.dflt) = _ := qaK k (by omega) hz s0 s1 s2 s3
  have hgv : Y9 k (Xx R W L secs sp gr core).2.2.1 (spans.getD i T21.dflt) = _ := qgK k (by omega) hz s0 s1 s2 s3
  rw [z7, qA (by omega : (i : Int) < (spans.length : Int)), qi, qc, hgs, hgv, qd ⟨by omega, by omega, rfl⟩, qF i (by omega), qq spans i T21.dflt (by omega), Zd, qA (by omega : (i : Int) > 0), ww]
  dsimp only
  generalize zM (spans.getD i T21.dflt) secs = P at *
  cases e : ZJ g P
  ·rw [qkR _ P a e, qlh _ _ _ _ _ _ _ _ _ (by decide : (-1 : Int) < 0)]
   have : (decide (grS P < 0) || grS P != g) = true := by
    rw [qJr, decide_eq_true_iff, bne_iff_ne]; exact qG0 hne e
   rw [this]; rfl
  ·rw [qlE _ P a e, qMc hne e, qx (by omega : ¬ g < 0), bne_self_eq_false, Bool.or_self, qg]
   exact ih (i + 1) j g (a && qfC P) (by omega) (by omega) (by omega) hg
theorem qzp (j : Nat) (hj : 300 < j) : z7 k j id spans (-1) true 0 (Xx R W L secs sp gr core) f0 c = some (qdZ R W L sp gr core id c (Qs (-1) true true (Zd secs spans)).1 (Qs (-1) true true (Zd secs spans)).2) := by
 obtain ⟨j, rfl⟩ := qQ (by omega : 0 < j)
 cases spans with
 | nil => exact qEH k hk R W L secs sp gr core id [] c hc (-1) true f0 j 0 (qT _)
 | cons s t =>
  have hl : t.length + 1 ≤ 256 := hl
  obtain ⟨s0, s1, s2, s3⟩ := hs s (by simp)
  have hne := qoT hz s0 s1 s3
  have hgs : qdt k (Xx R W L secs sp gr core).2.2.1 s = _ := qaK k (by omega) hz s0 s1 s2 s3
  have hgv : Y9 k (Xx R W L secs sp gr core).2.2.1 s = _ := qgK k (by omega) hz s0 s1 s2 s3
  have e0 : (s :: t).getD (qt 0) T21.dflt = s := rfl
  have hlen : ((s :: t).length : Int) = (t.length : Int) + 1 := by rw [wc]; omega
  rw [z7, qA (by omega : (0 : Int) < ((s :: t).length : Int)), qi, e0, hgs, hgv, qd ⟨Wg 0, by omega, rfl⟩, Zd, qx (by decide : ¬ (0 : Int) > 0), wD, Bool.or_false]
  dsimp only
  have ih := qxG k hk R W L secs hz sp gr core id (s :: t) (by rw [wc]; exact hl) hs c hc f0 t.length 1 j
  rw [show qa .i64 ((0 : Int) + 1) = ((1 : Nat) : Int) from rfl]
  obtain ⟨x, p, hp⟩ : ∃ x p, zM s secs = x :: p := by
   cases h : zM s secs with
   | nil => exact absurd h hne
   | cons x p => exact ⟨x, p, rfl⟩
  rw [hp, qyi rfl, qpk, Qs, vB, wD, qg]
  have hap : qfC (x :: p) = (x.2.2.1 == 1 && qfC p) := rfl
  cases e : ZJ x.2.2.2.1 p
  ·rw [qm Bool.false_ne_true, qkR _ p _ e, qlh _ _ _ _ _ _ _ _ _ (by decide : (-1 : Int) < 0)]; rfl
  ·rw [qd rfl, qlE _ p _ e]
   by_cases h : x.2.2.2.1 < 0
   ·rw [qA h, qi, qlh _ _ _ _ _ _ _ _ _ (qrV _ _ _ h)]; rfl
   ·rw [qx h, qg, hap, Bool.and_assoc]
    exact ih x.2.2.2.1 _ (by rw [wc]; omega) (by omega) (by decide) (by omega)
end
theorem qeM (k : Nat) (hk : 301000 ≤ k) (R : List Ro) (W L : Int) (secs : List wE) (sp : List wP) (gr : List Grd) (core id : Int) : qbV k (Xx R W L secs sp gr core) id = some (YE R W L secs sp gr core id) := by
 unfold qbV YE
 have e1 : (Xx R W L secs sp gr core).1 = R := rfl
 have e2 : (Xx R W L secs sp gr core).2.1 = (W, L) := rfl
 have e3 : (Xx R W L secs sp gr core).2.2.1 = secs := rfl
 rw [e1, e2, e3, qdw k hk, qkm k hk, qb, qd rfl]
 dsimp only
 by_cases h1 : (qV R W L id).2 = 0
 ·obtain ⟨reg, ci⟩ := qco h1
  obtain ⟨cl, cs⟩ := qpP h1
  rw [show ((qV R W L id).2 != 0) = false by rw [h1]; rfl, qg, qm (fun h : (qV R W L id).2 ≠ 0 => h h1)]
  by_cases h2 : id = 0
  ·rw [qd h2, show (id == 0) = true from beq_iff_eq.2 h2]; rfl
  ·rw [qm h2, show (id == 0) = false from beq_eq_false_iff_ne.2 h2, qg, qaR k (by omega), qgP k (by omega), qb, qd rfl]
   by_cases h3 : vw secs = 0
   ·have hl := (Zf h3).1
    rw [show (vw secs != 0) = false by rw [h3]; rfl, qg, qm (fun h : vw secs ≠ 0 => h h3), qaN k (by omega), qg6 k (by omega), qtp ci.chk, qb, qd rfl]
    dsimp only
    have key : wQ secs = L → z7 k k id (nf ((qV R W L id).1.2.2.2.map vZ)) (-1) true 0 (Xx R W L secs sp gr core) (0, false, 0, 0, 0, 0) (qV R W L id).1 = some (qdZ R W L sp gr core id (qV R W L id).1 (gpS secs (qV R W L id).1).1 (gpS secs (qV R W L id).1).2) := fun h4 =>
     qzp k hk R W L secs h3 sp gr core id _ cl (fun s hs => by
      obtain ⟨a, b, c, d⟩ := cs s hs
      exact ⟨a, b, c, by omega⟩) (qV R W L id).1 ci.chk (0, false, 0, 0, 0, 0) k (by omega)
    by_cases h : secs.length = 0
    ·have he : wQ secs = 0 := by unfold wQ; rw [qd h]
     rw [qx (by omega : ¬ (secs.length : Int) > 0), qg]
     by_cases h4 : wQ secs = L
     ·rw [qm (fun h : wQ secs ≠ L => h h4), show ((0 : Int) != L) = false from by rw [← h4, he]; rfl, qg]
      exact key h4
     ·rw [qd h4, show ((0 : Int) != L) = true from bne_iff_ne.2 (by rw [← he]; exact h4)]; rfl
    ·have he : wQ secs = (secs.getD (secs.length - 1) T2.dflt).2.1 := by unfold wQ; rw [qm h]
     rw [qA (by omega : (secs.length : Int) > 0), qi, qjk hl h, qd ⟨by omega, by omega⟩, qc, ← he]
     by_cases h4 : wQ secs = L
     ·rw [qm (fun h : wQ secs ≠ L => h h4), show (wQ secs != L) = false by rw [h4]; exact bne_self_eq_false _, qg]
      exact key h4
     ·rw [qd h4, bne_iff_ne.2 h4]; rfl
   ·rw [qd h3, bne_iff_ne.2 h3]; rfl
 ·rw [qd h1, bne_iff_ne.2 h1]; rfl
theorem qoU (k : Nat) (hk : 301000 ≤ k) (R : List Ro) (W L : Int) (secs : List wE) (sp : List wP) (gr : List Grd) (core id : Int) : Q9 k (Xx R W L secs sp gr core) id = YE R W L secs sp gr core id := by
 unfold Q9; rw [qeM k hk]; rfl
end Go.AM
namespace Go.AM
open Go Go.Proofs
noncomputable section
def qk9 (r : List T18.T) : AV := ro T18 r
abbrev qFa (a : T17.T) (b : Int) (r : List T18.T) : Prop := CC Tryz.prog 49 [.agg (qy (qr T17 a)), ri b] [] (qk9 r) (nb r)
def qDf := fun y0 y1 y2 y3 y4 y5 => (⟨qI 161 [(1, ri y0), (2, .ptr 1000000 0 0), (5, .own 1000001 0), (6, .ptr 1000002 0 0), (7, ri y1), (8, ri y2)], [(1000000, 0, .var 36 (qy (qr T17 y3))), (1000001, 0, .row 54 T18 y4), (1000002, 0, .var 74 (qy (qr T9 y5)))]⟩ : St)
def qzN := fun y0 y1 y2 y3 y4 y5 => (⟨qI 161 [(1, ri y0), (2, .ptr 1000000 0 0), (5, .own 1000001 0), (6, .ptr 1000002 0 0), (7, ri y1), (8, ri y2)], [(1000000, 0, .var 36 (qy (qr T17 y3))), (1000001, 0, .row 54 T18 y4), (1000002, 0, .var 74 (qy (qr T9 y5)))]⟩ : St)
def qyP := fun y0 y1 y2 y3 y4 => (⟨qI 161 [(1, ri y0), (2, .ptr 1000000 0 0), (5, .own 1000001 0), (6, .ptr 1000002 0 0), (7, ri y1)], [(1000000, 0, .var 36 (qy (qr T17 y2))), (1000001, 0, .row 54 T18 y3), (1000002, 0, .var 74 (qy (qr T9 y4)))]⟩ : St)
def qxN := fun y0 y1 y2 y3 y4 y5 => (⟨qI 161 [(1, ri y0), (2, .ptr 1000000 0 0), (5, .own 1000001 0), (6, .ptr 1000002 0 0), (7, ri y1), (9, ri y2)], [(1000000, 0, .var 36 (qy (qr T17 y3))), (1000001, 0, .row 54 T18 y4), (1000002, 0, .var 74 (qy (qr T9 y5)))]⟩ : St)
def qxD := fun y0 y1 y2 y3 y4 y5 y6 y7 => (⟨qI 161 [(1, ri y0), (2, .ptr 1000000 0 0), (5, .own 1000001 0), (6, .ptr 1000002 0 0), (7, ri y1), (9, ri y2), (10, rb y3), (11, ri y4)], [(1000000, 0, .var 36 (qy (qr T17 y5))), (1000001, 0, .row 54 T18 y6), (1000002, 0, .var 74 (qy (qr T9 y7)))]⟩ : St)
def qxR := fun y0 y1 y2 y3 => (⟨qI 161 [(5, .own 1000000 0), (6, .ptr 1000001 0 0), (7, ri y0), (13, ri y1)], [(1000000, 0, .row 54 T18 y2), (1000001, 0, .var 74 (qy (qr T9 y3)))]⟩ : St)
def qxC := fun y0 y1 y2 y3 => (⟨qI 161 [(5, .own 1000000 0), (6, .ptr 1000001 0 0), (7, ri y0), (13, ri y1)], [(1000000, 0, .row 54 T18 y2), (1000001, 0, .var 74 (qy (qr T9 y3)))]⟩ : St)
mutual
def Yj (k : Nat) : Nat → Int → Int → Int → T17.T → List T18.T → T9.T → Option (List T18.T)
 | 0, _, _, _, _, _, _ => none
 | j + 1, y0, y1, y2, y3, y4, y5 =>
 bif (y2 == 0 && decide ((↑ (qe y5.2.1) : Int) > qa .i64 (y5.1.2.2.2.2.2.2.1 + y5.1.2.2.2.2.2.2.2.1))) then
 if ((y4.length + [((5 : Int), y1, (32 : Int))].length) * (24 : Nat) ≤ (140737488355328 : Nat)) then
 YI k j y0 y1 y2 y3 (y4 ++ [(5, y1, 32)]) y5
 else none
 else
 YI k j y0 y1 y2 y3 y4 y5
def YI (k : Nat) : Nat → Int → Int → Int → T17.T → List T18.T → T9.T → Option (List T18.T)
 | 0, _, _, _, _, _, _ => none
 | j + 1, y0, y1, y2, y3, y4, y5 =>
 bif (y2 == 0 && y5.2.2.2 && decide ((↑ (qe y5.2.2.1) : Int) < qa .i64 (y5.1.2.2.2.2.2.2.1 - y5.1.2.2.2.2.2.2.2.2.1))) then
 if ((y4.length + [((5 : Int), y1, (29 : Int))].length) * (24 : Nat) ≤ (140737488355328 : Nat)) then
 Xj k j y0 y1 y3 (y4 ++ [(5, y1, 29)]) y5
 else none
 else
 Xj k j y0 y1 y3 y4 y5
def Xj (k : Nat) : Nat → Int → Int → T17.T → List T18.T → T9.T → Option (List T18.T)
 | 0, _, _, _, _, _ => none
 | j + 1, y0, y1, y2, y3, y4 =>
 v6 k j y0 y1 0 y2 y3 y4
def v6 (k : Nat) : Nat → Int → Int → Int → T17.T → List T18.T → T9.T → Option (List T18.T)
 | 0, _, _, _, _, _, _ => none
 | j + 1, y0, y1, y2, y3, y4, y5 =>
 bif y2 < (↑ (qe y5.2.1) : Int) then
 if (0 ≤ y2) ∧ (y2 < (↑ (qe y5.2.1) : Int)) ∧ ((Zg k y5.2.1 y2 (qM y5.2.1 y2.toNat I.dflt)).isSome) then
 Ws k j y0 y1 y2 (Vp k y5.2.1 y2 (qM y5.2.1 y2.toNat I.dflt)) 0 y3 y4 y5
 else none
 else
 Wq k j y1 0 y4 y5
def Ws (k : Nat) : Nat → Int → Int → Int → Bool → Int → T17.T → List T18.T → T9.T → Option (List T18.T)
 | 0, _, _, _, _, _, _, _, _ => none
 | j + 1, y0, y1, y2, y3, y4, y5, y6, y7 =>
 bif y4 < y0 then
 if (0 ≤ y4) ∧ (y4 < (↑ (qe y5.2.2.2.2.2.2.2.2.2.2.2.2.2.2.2.1) : Int)) then
 bif y3 then
 if (y3 = true) then
 Ws k j y0 y1 y2 true (qa .i64 (y4 + 1)) y5 y6 y7
 else none
 else
 if (y3 = false) ∧ (0 ≤ y2) ∧ (y2 < (↑ (qe y7.2.1) : Int)) ∧ ((Zg k (qM y5.2.2.2.2.2.2.2.2.2.2.2.2.2.2.2.1 y4.toNat T9.dflt).2.1 (↑ (qe (qM y5.2.2.2.2.2.2.2.2.2.2.2.2.2.2.2.1 y4.toNat T9.dflt).2.1) : Int) (qM y7.2.1 y2.toNat I.dflt)).isSome) then
 Ws k j y0 y1 y2 (false || Vp k (qM y5.2.2.2.2.2.2.2.2.2.2.2.2.2.2.2.1 y4.toNat T9.dflt).2.1 (↑ (qe (qM y5.2.2.2.2.2.2.2.2.2.2.2.2.2.2.2.1 y4.toNat T9.dflt).2.1) : Int) (qM y7.2.1 y2.toNat I.dflt)) (qa .i64 (y4 + 1)) y5 y6 y7
 else none
 else none
 else
 bif y3 then
 if ((y6.length + [((5 : Int), y1, (6 : Int))].length) * (24 : Nat) ≤ (140737488355328 : Nat)) then
 v6 k j y0 y1 (qa .i64 (y2 + 1)) y5 (y6 ++ [(5, y1, 6)]) y7
 else none
 else
 v6 k j y0 y1 (qa .i64 (y2 + 1)) y5 y6 y7
def Wq (k : Nat) : Nat → Int → Int → List T18.T → T9.T → Option (List T18.T)
 | 0, _, _, _, _ => none
 | j + 1, y0, y1, y2, y3 =>
 bif y1 < (↑ (qe y3.2.2.1) : Int) then
 if (0 ≤ y1) ∧ (y1 < (↑ (qe y3.2.2.1) : Int)) ∧ ((Zg k y3.2.1 (↑ (qe y3.2.1) : Int) (qM y3.2.2.1 y1.toNat I.dflt)).isSome) then
 bif (!Vp k y3.2.1 (↑ (qe y3.2.1) : Int) (qM y3.2.2.1 y1.toNat I.dflt)) then
 if ((y2.length + [((5 : Int), y0, (7 : Int))].length) * (24 : Nat) ≤ (140737488355328 : Nat)) then
 Xk k j y0 y1 (y2 ++ [(5, y0, 7)]) y3
 else none
 else
 Xk k j y0 y1 y2 y3
 else none
 else
 some y2
def Xk (k : Nat) : Nat → Int → Int → List T18.T → T9.T → Option (List T18.T)
 | 0, _, _, _, _ => none
 | j + 1, y0, y1, y2, y3 =>
 if (0 ≤ y1) ∧ (y1 < (↑ (qe y3.2.2.1) : Int)) ∧ ((Zg k y3.2.2.1 y1 (qM y3.2.2.1 y1.toNat I.dflt)).isSome) then
 bif (Vp k y3.2.2.1 y1 (qM y3.2.2.1 y1.toNat I.dflt)) then
 if ((y2.length + [((5 : Int), y0, (6 : Int))].length) * (24 : Nat) ≤ (140737488355328 : Nat)) then
 Wq k j y0 (qa .i64 (y1 + 1)) (y2 ++ [(5, y0, 6)]) y3
 else none
 else
 Wq k j y0 (qa .i64 (y1 + 1)) y2 y3
 else none
end
def qeX (k : Nat) (a : T17.T) (b : Int) : Option (List T18.T) :=
 if (0 ≤ b) ∧ (b < (↑ (qe a.2.2.2.2.2.2.2.2.2.2.2.2.2.2.2.1) : Int)) then
 if ((qaF k (qM a.2.2.2.2.2.2.2.2.2.2.2.2.2.2.2.1 b.toNat T9.dflt).1).isSome) then
 bif (ZL k (qM a.2.2.2.2.2.2.2.2.2.2.2.2.2.2.2.1 b.toNat T9.dflt).1 != (0 : Int)) then
 if ([((5 : Int), (qM a.2.2.2.2.2.2.2.2.2.2.2.2.2.2.2.1 b.toNat T9.dflt).1.1, ZL k (qM a.2.2.2.2.2.2.2.2.2.2.2.2.2.2.2.1 b.toNat T9.dflt).1)].length * (24 : Nat) ≤ (140737488355328 : Nat)) then
 Yj k k b ((qM a.2.2.2.2.2.2.2.2.2.2.2.2.2.2.2.1 b.toNat T9.dflt).1.1) (ZL k (qM a.2.2.2.2.2.2.2.2.2.2.2.2.2.2.2.1 b.toNat T9.dflt).1) a ([(5, (qM a.2.2.2.2.2.2.2.2.2.2.2.2.2.2.2.1 b.toNat T9.dflt).1.1, ZL k (qM a.2.2.2.2.2.2.2.2.2.2.2.2.2.2.2.1 b.toNat T9.dflt).1)]) (qM a.2.2.2.2.2.2.2.2.2.2.2.2.2.2.2.1 b.toNat T9.dflt)
 else none
 else
 Yj k k b ((qM a.2.2.2.2.2.2.2.2.2.2.2.2.2.2.2.1 b.toNat T9.dflt).1.1) (ZL k (qM a.2.2.2.2.2.2.2.2.2.2.2.2.2.2.2.1 b.toNat T9.dflt).1) a ([]) (qM a.2.2.2.2.2.2.2.2.2.2.2.2.2.2.2.1 b.toNat T9.dflt)
 else none
 else none
def qe8 := fun k a b => (qeX k a b).getD []
def qK0 (k : Nat) : Ke := (49, mo 2, fun
 | [.agg d, .r (.v (.int .i64 b))], [] => (qW [] T17 d).bind fun a => some (.one (qk9 (qe8 k a b), []))
 | _, _ => none)
def qw4 : List (Nat × List Cmd) := [(7, [.row 5 54 T18, .autoB [1, 2, 5, 6, 7, 8] false []]), (9, [.autoB [1, 2, 5, 6, 7, 8] false []]), (11, [.autoB [1, 2, 5, 6, 7] false []]), (12, [.row 5 54 T18, .autoB [1, 2, 5, 6, 7, 9] false []]), (16, [.autoB [1, 2, 5, 6, 7, 9, 10, 11] false []]), (23, [.autoB [5, 6, 7, 13] false []]), (27, [.autoB [5, 6, 7, 13] false []])]
abbrev qb3 := EP Tryz.f49 0 qk9 nb
theorem qoH (k) : ∀ j, (∀ {y0 y1 y2 y3 y4 y5}, qb3 7 (qDf y0 y1 y2 y3 y4 y5) (Yj k j y0 y1 y2 y3 y4 y5)) ∧ (∀ {y0 y1 y2 y3 y4 y5}, qb3 9 (qzN y0 y1 y2 y3 y4 y5) (YI k j y0 y1 y2 y3 y4 y5)) ∧ (∀ {y0 y1 y2 y3 y4}, qb3 11 (qyP y0 y1 y2 y3 y4) (Xj k j y0 y1 y2 y3 y4)) ∧ (∀ {y0 y1 y2 y3 y4 y5}, qb3 12 (qxN y0 y1 y2 y3 y4 y5) (v6 k j y0 y1 y2 y3 y4 y5)) ∧ (∀ {y0 y1 y2 y3 y4 y5 y6 y7}, qb3 16 (qxD y0 y1 y2 y3 y4 y5 y6 y7) (Ws k j y0 y1 y2 y3 y4 y5 y6 y7)) ∧ (∀ {y0 y1 y2 y3}, qb3 23 (qxR y0 y1 y2 y3) (Wq k j y0 y1 y2 y3)) ∧ (∀ {y0 y1 y2 y3}, qb3 27 (qxC y0 y1 y2 y3) (Xk k j y0 y1 y2 y3))
 | 0 => by and_intros <;> intros <;> exact e0
 | j + 1 => by
  have ih := @qoH k j
  have g := @go (qD [qiU k, qja k]) [7, 9, 11, 27] qw4 [.frz 4 false (RTy.list T18), .autoB [4] true []]
  refine ⟨?_, ?_, ?_, ?_, ?_, ?_, ?_⟩
  ·intro y0 y1 y2 y3 y4 y5 r h
   rw [Yj] at h
   exact g (gS h (fun h => qu h id fun h => gD h 9 ih.2.1) fun h => gD h 9 ih.2.1)
  ·intro y0 y1 y2 y3 y4 y5 r h
   rw [YI] at h
   exact g (gS h (fun h => qu h id fun h => gD h 11 ih.2.2.1) fun h => gD h 11 ih.2.2.1)
  ·intro y0 y1 y2 y3 y4 r h
   rw [Xj] at h
   exact g (gD h 12 ih.2.2.2.1)
  ·intro y0 y1 y2 y3 y4 y5 r h
   rw [v6] at h
   exact g (gS h (fun h => gN h (fun q => qf q.1 (qf q.2.1 (qf (qeg q.2.2) qR))) fun h => gD h 16 ih.2.2.2.2.1) fun h => gD h 23 ih.2.2.2.2.2.1)
  ·intro y0 y1 y2 y3 y4 y5 y6 y7 r h
   rw [Ws] at h
   exact g (gS h (fun h => qS h fun h => gS h (fun h => qu h id fun h => gD h 16 ih.2.2.2.2.1) fun h => gN h (fun q => qf q.1 (qf q.2.1 (qf q.2.2.1 (qf (qeg q.2.2.2) qR)))) fun h => gD h 16 ih.2.2.2.2.1) fun h => gS h (fun h => qu h id fun h => gD h 12 ih.2.2.2.1) fun h => gD h 12 ih.2.2.2.1)
  ·intro y0 y1 y2 y3 r h
   rw [Wq] at h
   exact g (gS h (fun h => gN h (fun q => qf q.1 (qf q.2.1 (qf (qeg q.2.2) qR))) fun h => gS h (fun h => qu h id fun h => gD h 27 ih.2.2.2.2.2.2) fun h => gD h 27 ih.2.2.2.2.2.2) fun h => gL h)
  ·intro y0 y1 y2 y3 r h
   rw [Xk] at h
   exact g (gN h (fun q => qf q.1 (qf q.2.1 (qf (qeg q.2.2) qR))) fun h => gS h (fun h => qu h id fun h => gD h 23 ih.2.2.2.2.2.1) fun h => gD h 23 ih.2.2.2.2.2.1)
theorem qKF (k a b r) (h : qeX k a b = some r): qFa a b r := qN Tryz.f49 (go (qD [qiU k, qja k]) [7, 9, 11, 27] qw4 [.frz 4 false (RTy.list T18), .autoB [4] true []] (qS h fun h => qu h qv8 fun h => gS h (fun h => qu h id fun h => gD h 7 (qoH k k).1) fun h => gD h 7 (qoH k k).1))
theorem qJY {k a b} (h : (qeX k a b).isSome): qFa a b (qe8 k a b) := qJ h (qKF k a b)
abbrev qBB (a : T17.T) (b : Int) (r : Int) : Prop := CC Tryz.prog 51 [.agg (qy (qr T17 a)), ri b] [] (ri r) (nb r)
def qBH := fun y0 y1 y2 => (⟨qI 26 [(1, ri y0), (2, .ptr 1000000 0 0), (5, ri y1)], [(1000000, 0, .var 36 (qy (qr T17 y2)))]⟩ : St)
def VM (k : Nat) : Nat → Int → Int → T17.T → Option Int
 | 0, _, _, _ => none
 | j + 1, y0, y1, y2 =>
 bif y1 < (↑ (qe y2.2.2.2.2.2.2.2.2.2.2.2.2.2.2.2.1) : Int) then
 if (0 ≤ y1) ∧ (y1 < (↑ (qe y2.2.2.2.2.2.2.2.2.2.2.2.2.2.2.2.1) : Int)) then
 if ((Zg k (qM y2.2.2.2.2.2.2.2.2.2.2.2.2.2.2.2.1 y1.toNat T9.dflt).2.2.1 (↑ (qe (qM y2.2.2.2.2.2.2.2.2.2.2.2.2.2.2.2.1 y1.toNat T9.dflt).2.2.1) : Int) y0).isSome) then
 bif (Vp k (qM y2.2.2.2.2.2.2.2.2.2.2.2.2.2.2.2.1 y1.toNat T9.dflt).2.2.1 (↑ (qe (qM y2.2.2.2.2.2.2.2.2.2.2.2.2.2.2.2.1 y1.toNat T9.dflt).2.2.1) : Int) y0) then
 some y1
 else
 VM k j y0 (qa .i64 (y1 + 1)) y2
 else none
 else none
 else
 some (-1)
def qfg (k : Nat) (a : T17.T) (b : Int) : Option Int :=
 VM k k b 0 a
def ZC := fun k a b => (qfg k a b).getD 0
def qL0 (k : Nat) : Ke := (51, mo 2, fun
 | [.agg d, .r (.v (.int .i64 b))], [] => (qW [] T17 d).bind fun a => some (.one (ri (ZC k a b), []))
 | _, _ => none)
def qvY : List (Nat × List Cmd) := [(2, [.autoB [1, 2, 5] false []])]
abbrev qNy := EP Tryz.f51 0 ri nb
theorem qxn (k) : ∀ j, (∀ y0 y1 y2, qNy 2 (qBH y0 y1 y2) (VM k j y0 y1 y2))
 | 0 => by intros; exact e0
 | j + 1 => by
  have ih := @qxn k j
  ·intro y0 y1 y2 r h
   rw [VM] at h
   exact go (qD [qiU k]) [] qvY [.autoB [4] true []] (gS h (fun h => qS h fun h => qu h qeg fun h => qB h fun h => gC h 2 (ih _ _ _ _)) fun h => gL h)
theorem qKf (k a b r) (h : qfg k a b = some r): qBB a b r := qN Tryz.f51 (go (qD [qiU k]) [] qvY [.autoB [4] true []] (gC h 2 ((qxn k k) _ _ _ _)))
theorem qMG {k a b} (h : (qfg k a b).isSome): qBB a b (ZC k a b) := qJ h (qKf k a b)
abbrev qte : Type := T23.T
def qrG (r : qte) : AV := .agg (qy (qr T23 r))
abbrev qEQ (a : T17.T) (r : qte) : Prop := CC Tryz.prog 99 [.agg (qy (qr T17 a))] [] (qrG r) (nb r)
def qmY (k : Nat) (a : T17.T) : Option qte :=
 some (a.2.1, a.2.2.1)
def qmU := fun k a => (qmY k a).getD (T23).dflt
def qMf (k : Nat) : Ke := (99, mo 1, fun
 | [.agg b], [] => (qW [] T17 b).bind fun a => some (.one (qrG (qmU k a), []))
 | _, _ => none)
theorem qKL (k a r) (h : qmY k a = some r): qEQ a r := qN Tryz.f99 (go (qD []) [] [] [.autoB [2] true []] (gL h))
theorem qM1 {k a} (h : (qmY k a).isSome): qEQ a (qmU k a) := qJ h (qKL k a)
abbrev qtB : Type := T24.T
def qrE (r : qtB) : AV := .agg (qy (qr T24 r))
abbrev qEZ (a : T17.T) (r : qtB) : Prop := CC Tryz.prog 53 [.agg (qy (qr T17 a))] [] (qrE r) (nb r)
def qif (k : Nat) (a : T17.T) : Option qtB :=
 if ((qmY k a).isSome) then
 some (a.2.2.2.2.2.2.2.2.2.2.2.1, (((qmU k a).1, (qmU k a).2), (a.2.2.2.2.2.2.2.2.2.1, (a.2.2.2.2.2.2.2.2.2.2.2.2.2.2.1, (a.2.2.2.2.2.2.2.1, a.2.2.2.2.2.1)))))
 else none
def WO := fun k a => (qif k a).getD (T24).dflt
def qLF (k : Nat) : Ke := (53, mo 1, fun
 | [.agg b], [] => (qW [] T17 b).bind fun a => some (.one (qrE (WO k a), []))
 | _, _ => none)
theorem qKV (k a r) (h : qif k a = some r): qEZ a r := qN Tryz.f53 (go (qD [qMf k]) [] [] [.frz 2 true T24, .autoB [2] true []] (qu h qM1 fun h => gL h))
theorem qLu {k a} (h : (qif k a).isSome): qEZ a (WO k a) := qJ h (qKV k a)
abbrev qao : Type := List T18.T × Int
def qkH (r : qao) : AV := .tup [ro T18 r.1, ri r.2]
abbrev qEj (a : T17.T) (r : qao) : Prop := CC Tryz.prog 20 [.agg (qy (qr T17 a))] [] (qkH r) (nb r)
def qCm := fun y0 y1 y2 => (⟨qI 157 [(1, .ptr 1000000 0 0), (5, .own 1000001 0), (6, ri y0)], [(1000000, 0, .var 36 (qy (qr T17 y1))), (1000001, 0, .row 54 T18 y2)]⟩ : St)
def qyJ := fun y0 y1 y2 => (⟨qI 157 [(1, .ptr 1000000 0 0), (5, .own 1000001 0), (7, ri y0)], [(1000000, 0, .var 36 (qy (qr T17 y1))), (1000001, 0, .row 54 T18 y2)]⟩ : St)
def qyb := fun y0 y1 y2 y3 y4 => (⟨qI 157 [(1, .ptr 1000000 0 0), (5, .own 1000001 0), (7, ri y0), (8, ro I y1), (9, ri y2)], [(1000000, 0, .var 36 (qy (qr T17 y3))), (1000001, 0, .row 54 T18 y4)]⟩ : St)
def qy1 := fun y0 y1 y2 => (⟨qI 157 [(1, .ptr 1000000 0 0), (5, .own 1000001 0), (13, ri y0)], [(1000000, 0, .var 36 (qy (qr T17 y1))), (1000001, 0, .row 54 T18 y2)]⟩ : St)
def qye := fun y0 y1 y2 y3 y4 => (⟨qI 157 [(1, .ptr 1000000 0 0), (5, .own 1000001 0), (13, ri y0), (14, ro I y1), (15, ri y2)], [(1000000, 0, .var 36 (qy (qr T17 y3))), (1000001, 0, .row 54 T18 y4)]⟩ : St)
mutual
def V4 (k : Nat) : Nat → Int → T17.T → List T18.T → Option qao
 | 0, _, _, _ => none
 | j + 1, y0, y1, y2 =>
 bif y0 < (↑ (qe y1.2.2.2.2.2.2.2.2.2.2.2.2.2.2.2.1) : Int) then
 if ((qeX k y1 y0).isSome) ∧ ((y2.length + qe (qe8 k y1 y0)) * (24 : Nat) ≤ (140737488355328 : Nat)) then
 V4 k j (qa .i64 (y0 + 1)) y1 (y2 ++ qe8 k y1 y0)
 else none
 else
 if ((qbI k y1.2.2.2.2.2.2.2.2.2.2.2.2.2.2.2.2.2.1).isSome) then
 bif (XA k y1.2.2.2.2.2.2.2.2.2.2.2.2.2.2.2.2.2.1 != (0 : Int)) then
 if ((y2.length + [((6 : Int), (0 : Int), XA k y1.2.2.2.2.2.2.2.2.2.2.2.2.2.2.2.2.2.1)].length) * (24 : Nat) ≤ (140737488355328 : Nat)) then
 some (y2 ++ [(6, 0, XA k y1.2.2.2.2.2.2.2.2.2.2.2.2.2.2.2.2.2.1)], 0)
 else none
 else
 vU k j 0 y1 y2
 else none
def vU (k : Nat) : Nat → Int → T17.T → List T18.T → Option qao
 | 0, _, _, _ => none
 | j + 1, y0, y1, y2 =>
 bif y0 < (↑ (qe y1.2.2.2.2.2.2.2.2.2.2.2.2.2.2.2.2.2.1) : Int) then
 if (0 ≤ y0) ∧ (y0 < (↑ (qe y1.2.2.2.2.2.2.2.2.2.2.2.2.2.2.2.2.2.1) : Int)) then
 z6 k j y0 ((qM y1.2.2.2.2.2.2.2.2.2.2.2.2.2.2.2.2.2.1 y0.toNat T11.dflt).2.2) 0 y1 y2
 else none
 else
 Wh k j 0 y1 y2
def z6 (k : Nat) : Nat → Int → List I.T → Int → T17.T → List T18.T → Option qao
 | 0, _, _, _, _, _ => none
 | j + 1, y0, y1, y2, y3, y4 =>
 bif y2 < y1.length then
 if (0 ≤ y2) ∧ (y2 < y1.length) ∧ ((qfg k y3 (y1.getD y2.toNat I.dflt)).isSome) then
 bif ZC k y3 (y1.getD y2.toNat I.dflt) < (0 : Int) then
 if (0 ≤ y2) ∧ (y2 < y1.length) ∧ ((y4.length + [((6 : Int), y1.getD y2.toNat I.dflt, (1 : Int))].length) * (24 : Nat) ≤ (140737488355328 : Nat)) then
 z6 k j y0 y1 (qa .i64 (y2 + 1)) y3 (y4 ++ [(6, y1.getD y2.toNat I.dflt, 1)])
 else none
 else
 if ((qif k y3).isSome) ∧ (0 ≤ y2) ∧ (y2 < y1.length) ∧ ((qbV k (WO k y3) (y1.getD y2.toNat I.dflt)).isSome) then
 bif ((Q9 k (WO k y3) (y1.getD y2.toNat I.dflt)).2 == (0 : Int)) then
 if ((0 : Int) ≤ ZC k y3 (y1.getD y2.toNat I.dflt)) ∧ (ZC k y3 (y1.getD y2.toNat I.dflt) < (↑ (qe y3.2.2.2.2.2.2.2.2.2.2.2.2.2.2.2.1) : Int)) ∧ (0 ≤ y2) ∧ (y2 < y1.length) ∧ ((qe3 k (qM y3.2.2.2.2.2.2.2.2.2.2.2.2.2.2.2.1 (qt (ZC k y3 (y1.getD y2.toNat I.dflt))) T9.dflt).1 (Q9 k (WO k y3) (y1.getD y2.toNat I.dflt)).1 (y1.getD y2.toNat I.dflt) y3.2.2.2.2.2.2.2.2.2.2.2.2.2.2.2.2.1).isSome) then
 bif (qb7 k (qM y3.2.2.2.2.2.2.2.2.2.2.2.2.2.2.2.1 (qt (ZC k y3 (y1.getD y2.toNat I.dflt))) T9.dflt).1 (Q9 k (WO k y3) (y1.getD y2.toNat I.dflt)).1 (y1.getD y2.toNat I.dflt) y3.2.2.2.2.2.2.2.2.2.2.2.2.2.2.2.2.1 != (0 : Int)) then
 if (0 ≤ y2) ∧ (y2 < y1.length) ∧ ((y4.length + [((7 : Int), y1.getD y2.toNat I.dflt, qb7 k (qM y3.2.2.2.2.2.2.2.2.2.2.2.2.2.2.2.1 (qt (ZC k y3 (y1.getD y2.toNat I.dflt))) T9.dflt).1 (Q9 k (WO k y3) (y1.getD y2.toNat I.dflt)).1 (y1.getD y2.toNat I.dflt) y3.2.2.2.2.2.2.2.2.2.2.2.2.2.2.2.2.1)].length) * (24 : Nat) ≤ (140737488355328 : Nat)) then
 z6 k j y0 y1 (qa .i64 (y2 + 1)) y3 (y4 ++ [(7, y1.getD y2.toNat I.dflt, qb7 k (qM y3.2.2.2.2.2.2.2.2.2.2.2.2.2.2.2.1 (qt (ZC k y3 (y1.getD y2.toNat I.dflt))) T9.dflt).1 (Q9 k (WO k y3) (y1.getD y2.toNat I.dflt)).1 (y1.getD y2.toNat I.dflt) y3.2.2.2.2.2.2.2.2.2.2.2.2.2.2.2.2.1)])
 else none
 else
 z6 k j y0 y1 (qa .i64 (y2 + 1)) y3 y4
 else none
 else
 bif ((Q9 k (WO k y3) (y1.getD y2.toNat I.dflt)).2 != (0 : Int)) then
 if (0 ≤ y2) ∧ (y2 < y1.length) ∧ ((y4.length + [((7 : Int), y1.getD y2.toNat I.dflt, (Q9 k (WO k y3) (y1.getD y2.toNat I.dflt)).2)].length) * (24 : Nat) ≤ (140737488355328 : Nat)) then
 z6 k j y0 y1 (qa .i64 (y2 + 1)) y3 (y4 ++ [(7, y1.getD y2.toNat I.dflt, (Q9 k (WO k y3) (y1.getD y2.toNat I.dflt)).2)])
 else none
 else
 z6 k j y0 y1 (qa .i64 (y2 + 1)) y3 y4
 else none
 else none
 else
 vU k j (qa .i64 (y0 + 1)) y3 y4
def Wh (k : Nat) : Nat → Int → T17.T → List T18.T → Option qao
 | 0, _, _, _ => none
 | j + 1, y0, y1, y2 =>
 bif y0 < (↑ (qe y1.2.2.2.2.2.2.2.2.2.2.2.2.2.2.2.1) : Int) then
 if (0 ≤ y0) ∧ (y0 < (↑ (qe y1.2.2.2.2.2.2.2.2.2.2.2.2.2.2.2.1) : Int)) then
 Wr k j y0 ((qM y1.2.2.2.2.2.2.2.2.2.2.2.2.2.2.2.1 y0.toNat T9.dflt).2.2.1) 0 y1 y2
 else none
 else
 some (y2, 0)
def Wr (k : Nat) : Nat → Int → List I.T → Int → T17.T → List T18.T → Option qao
 | 0, _, _, _, _, _ => none
 | j + 1, y0, y1, y2, y3, y4 =>
 bif y2 < y1.length then
 if (0 ≤ y2) ∧ (y2 < y1.length) ∧ ((qby k y3.2.2.2.2.2.2.2.2.2.2.2.2.2.2.2.2.2.1 (y1.getD y2.toNat I.dflt)).isSome) then
 bif ((qeC k y3.2.2.2.2.2.2.2.2.2.2.2.2.2.2.2.2.2.1 (y1.getD y2.toNat I.dflt)).2 != (0 : Int)) then
 if (0 ≤ y2) ∧ (y2 < y1.length) ∧ ((y4.length + [((6 : Int), y1.getD y2.toNat I.dflt, (2 : Int))].length) * (24 : Nat) ≤ (140737488355328 : Nat)) then
 Wr k j y0 y1 (qa .i64 (y2 + 1)) y3 (y4 ++ [(6, y1.getD y2.toNat I.dflt, 2)])
 else none
 else
 Wr k j y0 y1 (qa .i64 (y2 + 1)) y3 y4
 else none
 else
 Wh k j (qa .i64 (y0 + 1)) y3 y4
end
def qe5 (k : Nat) (a : T17.T) : Option qao :=
 if ((qet k a).isSome) then
 bif (qe4 k a != (0 : Int)) then
 some ([], qe4 k a)
 else
 V4 k k 0 a ([])
 else none
def QF := fun k a => (qe5 k a).getD ([], 0)
def qMI (k : Nat) : Ke := (20, mo 1, fun
 | [.agg b], [] => (qW [] T17 b).bind fun a => some (.one (qkH (QF k a), []))
 | _, _ => none)
def qCL (k : Nat) : Calld := qD [qLs k, qK0 k, qoq k, qL0 k, qLJ k, qLF k, qKE k, qJP k]
def qvq : List (Nat × List Cmd) := [(6, [.row 5 54 T18, .autoB [1, 5, 6] false []]), (13, [.autoB [1, 5, 7] false []]), (17, [.autoB [1, 5, 7, 8, 9] false []]), (28, [.autoB [1, 5, 13] false []]), (32, [.autoB [1, 5, 13, 14, 15] false []])]
abbrev qhS := EP Tryz.f20 0 qkH nb
theorem qwm (k) : ∀ j, (∀ {y0 y1 y2}, qhS 6 (qCm y0 y1 y2) (V4 k j y0 y1 y2)) ∧ (∀ {y0 y1 y2}, qhS 13 (qyJ y0 y1 y2) (vU k j y0 y1 y2)) ∧ (∀ {y0 y1 y2 y3 y4}, qhS 17 (qyb y0 y1 y2 y3 y4) (z6 k j y0 y1 y2 y3 y4)) ∧ (∀ {y0 y1 y2}, qhS 28 (qy1 y0 y1 y2) (Wh k j y0 y1 y2)) ∧ (∀ {y0 y1 y2 y3 y4}, qhS 32 (qye y0 y1 y2 y3 y4) (Wr k j y0 y1 y2 y3 y4))
 | 0 => by and_intros <;> intros <;> exact e0
 | j + 1 => by
  have ih := @qwm k j
  have g := @go (qCL k) [] qvq [.frz 2 false (RTy.list T18), .autoB [2, 3] true []]
  refine ⟨?_, ?_, ?_, ?_, ?_⟩
  ·intro y0 y1 y2 r h
   rw [V4] at h
   exact g (gS h (fun h => gN h (fun q => qf (qJY q.1) (qf q.2 qR)) fun h => gD h 6 ih.1) fun h => qu h qvW fun h => gS h (fun h => qu h id fun h => gL h) fun h => gD h 13 ih.2.1)
  ·intro y0 y1 y2 r h
   rw [vU] at h
   exact g (gS h (fun h => qS h fun h => gD h 17 ih.2.2.1) fun h => gD h 28 ih.2.2.2.1)
  ·intro y0 y1 y2 y3 y4 r h
   rw [z6] at h
   exact g (gS h (fun h => gN h (fun q => qf q.1 (qf q.2.1 (qf (qMG q.2.2) qR))) fun h => gS h (fun h => gN h Xn fun h => gD h 17 ih.2.2.1) fun h => gN h (fun q => qf (qLu q.1) (qf q.2.1 (qf q.2.2.1 (qf (qLp q.2.2.2) qR)))) fun h => gS h (fun h => gN h (fun q => qf q.1 (qf q.2.1 (qf q.2.2.1 (qf q.2.2.2.1 (qf (qMM q.2.2.2.2) qR))))) fun h => gS h (fun h => gN h Xn fun h => gD h 17 ih.2.2.1) fun h => gD h 17 ih.2.2.1) fun h => gS h (fun h => gN h Xn fun h => gD h 17 ih.2.2.1) fun h => gD h 17 ih.2.2.1) fun h => gD h 13 ih.2.1)
  ·intro y0 y1 y2 r h
   rw [Wh] at h
   exact g (gS h (fun h => qS h fun h => gD h 32 ih.2.2.2.2) fun h => gL h)
  ·intro y0 y1 y2 y3 y4 r h
   rw [Wr] at h
   exact g (gS h (fun h => gN h (fun q => qf q.1 (qf q.2.1 (qf (qJt q.2.2) qR))) fun h => gS h (fun h => gN h Xn fun h => gD h 32 ih.2.2.2.2) fun h => gD h 32 ih.2.2.2.2) fun h => gD h 28 ih.2.2.2.1)
theorem qMX (k a r) (h : qe5 k a = some r): qEj a r := qN Tryz.f20 (go (qCL k) [] qvq [.frz 2 false (RTy.list T18), .autoB [2, 3] true []] (qu h qL3 fun h => qB h fun h => gD h 6 (qwm k k).1))
theorem qKJ {k a} (h : (qe5 k a).isSome): qEj a (QF k a) := qJ h (qMX k a)
end
def Yw (x : Int) : List T9.T → Option vY
 | [] => none
 | s :: t => bif wj x s.2.2.1 then some s.1 else Yw x t
def qFw : vY := (0, (0, (0, (0, (0, (0, (0, (0, (0, (0, (0, 0)))))))))))
def qtd (o : Option vY) : vY × Bool := match o with
 | some a => (a, true)
 | none => (qFw, false)
theorem qK9 (k : Nat) (hk : 100 ≤ k) (b : T17.T) (fnd : List wO) (x y : Int) (l : List T9.T) (hl : l.length ≤ 40) (hs : ∀ s ∈ l, s.2.2.1.length ≤ 40) : ∀ (d i j : Nat), i + d = l.length → d < j →
  Yk k b fnd y j x l (l.length : Int) (i : Int) qFw = some (qtd (Yw x (l.drop i))) := by
 intro d
 induction d with
 | zero =>
  intro i j hi hj
  obtain ⟨j, rfl⟩ := qQ (by omega : 0 < j)
  rw [Yk, qx (by omega : ¬ (i : Int) < (l.length : Int)), qg, qh (by omega)]; rfl
 | succ d ih =>
  intro i j hi hj
  obtain ⟨j, rfl⟩ := qQ (by omega : 0 < j)
  have hm := hs _ (Vh l i T9.dflt (by omega))
  rw [Yk, qA (by omega : (i : Int) < (l.length : Int)), qi, qd ⟨by omega, by omega⟩, qc, qlt k _ x (by omega) (by omega), qoQ k _ x (by omega) (by omega), qb, qd rfl, qF i (by omega), ih (i + 1) j (by omega) (by omega), qq l i T9.dflt (by omega), Yw]
  cases wj x (l.getD i T9.dflt).2.2.1 <;> rfl
theorem qvM (k : Nat) (hk : 100 ≤ k) (b : T17.T) (g : GB b) (fnd : List wO) (x : Int) : qje k b fnd x = some (qtd (Yw x (b.2.2.2.2.2.2.2.2.2.2.2.2.2.2.2.1))) := by
 have hl := g.bOrders
 unfold qje
 exact qK9 k hk b fnd x x (b.2.2.2.2.2.2.2.2.2.2.2.2.2.2.2.1) hl (fun s h => (g.ord s h).2) (b.2.2.2.2.2.2.2.2.2.2.2.2.2.2.2.1.length) 0 k (by omega) (by omega)
theorem qL5 (k : Nat) (hk : 100 ≤ k) (b : T17.T) (g : GB b) (fnd : List wO) (x : Int) : XH k b fnd x = qtd (Yw x (b.2.2.2.2.2.2.2.2.2.2.2.2.2.2.2.1)) := by
 unfold XH; rw [qvM k hk b g fnd x]; rfl
def qdI (x : Int) : List T9.T → Nat → Option Nat
 | [], _ => none
 | s :: t, n => bif wj x s.2.2.1 then some n else qdI x t (n + 1)
theorem qzE (x : Int) : ∀ (l : List T9.T) (n : Nat), match qdI x l n with
  | none => Yw x l = none
  | some q => n ≤ q ∧ q - n < l.length ∧ Yw x l = some (l.getD (q - n) T9.dflt).1
 | [], n => by simp [qdI, Yw]
 | s :: t, n => by
  have ih := qzE x t (n + 1)
  unfold qdI Yw
  cases wj x s.2.2.1
  ·rw [qg, qg]
   revert ih
   cases qdI x t (n + 1) with
   | none => exact id
   | some q =>
    intro ih
    obtain ⟨h1, h2, h3⟩ := ih
    refine ⟨by omega, by rw [wc]; omega, ?_⟩
    rw [h3, show q - n = (q - (n + 1)) + 1 by omega]
    rfl
  ·rw [qi, qi]
   refine ⟨qT _, by rw [wc]; omega, ?_⟩
   rw [Nat.sub_self]; rfl
def qhN (o : Option Nat) : Int := match o with
 | some q => (q : Int)
 | none => -1
theorem qCM (k : Nat) (hk : 100 ≤ k) (b : T17.T) (g : GB b) (x : Int) : ∀ (d i j : Nat), i + d = b.2.2.2.2.2.2.2.2.2.2.2.2.2.2.2.1.length → d < j →
  VM k j x (i : Int) b = some (qhN (qdI x (b.2.2.2.2.2.2.2.2.2.2.2.2.2.2.2.1.drop i) i)) := by
 have hl := g.bOrders
 intro d
 induction d with
 | zero =>
  intro i j hi hj
  obtain ⟨j, rfl⟩ := qQ (by omega : 0 < j)
  rw [VM, qx (by omega : ¬ (i : Int) < (b.2.2.2.2.2.2.2.2.2.2.2.2.2.2.2.1.length : Int)), qg, qh (by omega)]; rfl
 | succ d ih =>
  intro i j hi hj
  obtain ⟨j, rfl⟩ := qQ (by omega : 0 < j)
  have hm := (g.ord _ (Vh (b.2.2.2.2.2.2.2.2.2.2.2.2.2.2.2.1) i T9.dflt (by omega))).2
  have hrw : b.2.2.2.2.2.2.2.2.2.2.2.2.2.2.2.1.drop i = b.2.2.2.2.2.2.2.2.2.2.2.2.2.2.2.1.getD i T9.dflt :: b.2.2.2.2.2.2.2.2.2.2.2.2.2.2.2.1.drop (i + 1) := qq (b.2.2.2.2.2.2.2.2.2.2.2.2.2.2.2.1) i T9.dflt (by omega)
  have hh := qm7 k (b.2.2.2.2.2.2.2.2.2.2.2.2.2.2.2.1.getD i T9.dflt).2.2.1 x (b.2.2.2.2.2.2.2.2.2.2.2.2.2.2.2.1.getD i T9.dflt).2.2.1.length (qT _) (by omega) (by omega)
  have hv := qq3 k (b.2.2.2.2.2.2.2.2.2.2.2.2.2.2.2.1.getD i T9.dflt).2.2.1 x (b.2.2.2.2.2.2.2.2.2.2.2.2.2.2.2.1.getD i T9.dflt).2.2.1.length (qT _) (by omega) (by omega)
  rw [wI (qT _)] at hh hv
  rw [VM, qA (by omega : (i : Int) < (b.2.2.2.2.2.2.2.2.2.2.2.2.2.2.2.1.length : Int)), qi, qd ⟨by omega, by omega⟩, qc, hh, hv, qb, qd rfl, qF i (by omega), ih (i + 1) j (by omega) (by omega), hrw, qdI]
  cases wj x (b.2.2.2.2.2.2.2.2.2.2.2.2.2.2.2.1.getD i T9.dflt).2.2.1 <;> rfl
theorem qpE (k : Nat) (hk : 100 ≤ k) (b : T17.T) (g : GB b) (x : Int) : qfg k b x = some (qhN (qdI x (b.2.2.2.2.2.2.2.2.2.2.2.2.2.2.2.1) 0)) := by
 have hl := g.bOrders
 unfold qfg
 exact qCM k hk b g x (b.2.2.2.2.2.2.2.2.2.2.2.2.2.2.2.1.length) 0 k (by omega) (by omega)
theorem qAy (k : Nat) (hk : 100 ≤ k) (b : T17.T) (g : GB b) (x : Int) : ZC k b x = qhN (qdI x (b.2.2.2.2.2.2.2.2.2.2.2.2.2.2.2.1) 0) := by
 unfold ZC; rw [qpE k hk b g x]; rfl
def QI (b : T17.T) (x : Int) : Fac × Int := YE (b.2.2.2.2.2.2.2.2.2.2.2.1) (b.2.1) (b.2.2.1) (b.2.2.2.2.2.2.2.2.2.1) (b.2.2.2.2.2.2.2.2.2.2.2.2.2.2.1) (b.2.2.2.2.2.2.2.1) (b.2.2.2.2.2.1) x
def qgj (b : T17.T) (o : vY) (x : Int) : Int := bif (QI b x).2 == 0 then qf5 o (QI b x).1 x (b.2.2.2.2.2.2.2.2.2.2.2.2.2.2.2.2.1) else (QI b x).2
def qtT (b : T17.T) (x : Int) : List wO := match Yw x (b.2.2.2.2.2.2.2.2.2.2.2.2.2.2.2.1) with
 | none => [(6, x, 1)]
 | some o => bif qgj b o x != 0 then [(7, x, qgj b o x)] else []
theorem qGg (b : T17.T) (x : Int) : (qtT b x).length ≤ 1 := by
 unfold qtT
 cases Yw x (b.2.2.2.2.2.2.2.2.2.2.2.2.2.2.2.1) with
 | none => simp
 | some o => show (bif qgj b o x != 0 then [(7, x, qgj b o x)] else []).length ≤ 1; cases (qgj b o x != 0) <;> simp
def Vb (b : T17.T) : List Int → List wO
 | [] => []
 | x :: t => qtT b x ++ Vb b t
theorem qcH (b : T17.T) : ∀ l : List Int, (Vb b l).length ≤ l.length
 | [] => qT _
 | x :: t => by
  have := qcH b t
  have := qGg b x
  rw [Vb, qn, wc]; omega
def Vq (b : T17.T) : List vr → List wO
 | [] => []
 | s :: t => Vb b s.2.2 ++ Vq b t
theorem qRZ (k : Nat) (hk : 301000 ≤ k) (b q : T17.T) (g : GB b) (q2 : List wO) (L : List vr) (len n : Int) (m : List Int) (hm : m.length ≤ 40) : ∀ (d i j : Nat) (fnd : List wO) (sent : List Int), i + d = m.length → fnd.length + d ≤ 100000 → sent.length + d ≤ 100000 →
  Qv k q q2 (d + 1 + j) L len n m (m.length : Int) (i : Int) b fnd sent = Z2 k q q2 j L len (qa .i64 (n + 1)) b (fnd ++ Vb b (m.drop i)) (sent ++ m.drop i) := by
 have hw := g.bWaivers
 intro d
 induction d with
 | zero =>
  intro i j fnd sent hi hf hs
  rw [show 0 + 1 + j = j + 1 by omega, Qv, qx (by omega : ¬ (i : Int) < (m.length : Int)), qg, qh (by omega), qY, Vb, qY]
 | succ d ih =>
  intro i j fnd sent hi hf hs
  have hrw : m.drop i = m.getD i I.dflt :: m.drop (i + 1) := qq m i I.dflt (by omega)
  have hgs : qbK k (b.2.2.2.2.2.2.2.2.2.2.2.1, (b.2.1, b.2.2.1), b.2.2.2.2.2.2.2.2.2.1, b.2.2.2.2.2.2.2.2.2.2.2.2.2.2.1, b.2.2.2.2.2.2.2.1, b.2.2.2.2.2.1) (m.getD i I.dflt) = some (QI b (m.getD i I.dflt)) := qbY k hk (b.2.2.2.2.2.2.2.2.2.2.2.1, (b.2.1, b.2.2.1), b.2.2.2.2.2.2.2.2.2.1, b.2.2.2.2.2.2.2.2.2.2.2.2.2.2.1, b.2.2.2.2.2.2.2.1, b.2.2.2.2.2.1) (m.getD i I.dflt)
  have hgv : Qe k (b.2.2.2.2.2.2.2.2.2.2.2.1, (b.2.1, b.2.2.1), b.2.2.2.2.2.2.2.2.2.1, b.2.2.2.2.2.2.2.2.2.2.2.2.2.2.1, b.2.2.2.2.2.2.2.1, b.2.2.2.2.2.1) (m.getD i I.dflt) = QI b (m.getD i I.dflt) := qkZ k hk (b.2.2.2.2.2.2.2.2.2.2.2.1, (b.2.1, b.2.2.1), b.2.2.2.2.2.2.2.2.2.1, b.2.2.2.2.2.2.2.2.2.2.2.2.2.2.1, b.2.2.2.2.2.2.2.1, b.2.2.2.2.2.1) (m.getD i I.dflt)
  have hrs : qnd k b fnd = some (b.2.2.2.2.2.2.2.2.2.2.2.1, (b.2.1, b.2.2.1), b.2.2.2.2.2.2.2.2.2.1, b.2.2.2.2.2.2.2.2.2.2.2.2.2.2.1, b.2.2.2.2.2.2.2.1, b.2.2.2.2.2.1) := rfl
  have hrv : Wx k b fnd = (b.2.2.2.2.2.2.2.2.2.2.2.1, (b.2.1, b.2.2.1), b.2.2.2.2.2.2.2.2.2.1, b.2.2.2.2.2.2.2.2.2.2.2.2.2.2.1, b.2.2.2.2.2.2.2.1, b.2.2.2.2.2.1) := rfl
  have key : ∀ F : List wO, F.length ≤ fnd.length + 1 → Qv k q q2 (d + 1 + j) L len n m (m.length : Int) ((i + 1 : Nat) : Int) b F (sent ++ [m.getD i I.dflt]) = Z2 k q q2 j L len (qa .i64 (n + 1)) b (F ++ Vb b (m.drop (i + 1))) (sent ++ m.drop i) := fun F hF => by
   rw [ih (i + 1) j F _ (by omega) (by omega) (by rw [qn, qk]; omega), hrw, qw]; rfl
  rw [show d + 1 + 1 + j = (d + 1 + j) + 1 by omega, Qv, qA (by omega : (i : Int) < (m.length : Int)), qi, qd ⟨by omega, by omega⟩, qc, qd (by simp only [qk]; omega), qvM k (by omega) b g, qL5 k (by omega) b g, qb, qd rfl, qF i (by omega), hrs, hrv, hgs, hgv, hrw, Vb, ← hrw]
  unfold qtT
  cases ho : Yw (m.getD i I.dflt) (b.2.2.2.2.2.2.2.2.2.2.2.2.2.2.2.1) with
  | none =>
   rw [show qtd none = (qFw, false) from rfl]
   dsimp only
   rw [qd1, qi, WS k b fnd 6 _ _ (by omega), ZQ k b fnd 6 _ _ (by omega), qb, qd rfl, key _ (by simp), qw]
  | some o =>
   have e1 := qpz k (by omega) o (QI b (m.getD i I.dflt)).1 (m.getD i I.dflt) (b.2.2.2.2.2.2.2.2.2.2.2.2.2.2.2.2.1) hw
   have e2 := qzW k (by omega) o (QI b (m.getD i I.dflt)).1 (m.getD i I.dflt) (b.2.2.2.2.2.2.2.2.2.2.2.2.2.2.2.2.1) hw
   rw [show qtd (some o) = (o, true) from rfl]
   dsimp only
   rw [e1, e2, vB, qg, qd ⟨rfl, rfl⟩, qb, qd rfl]
   unfold qgj
   cases hz : ((QI b (m.getD i I.dflt)).2 == (0 : Int))
   ·have hz' : ((QI b (m.getD i I.dflt)).2 != (0 : Int)) = true := by rw [bne, hz]; rfl
    rw [qg, qg, hz', qi, qi, WS k b fnd 7 _ _ (by omega), ZQ k b fnd 7 _ _ (by omega), qb, qd rfl, key _ (by simp), qw]
   ·rw [qi, qi]
    cases (qf5 o (QI b (m.getD i I.dflt)).1 (m.getD i I.dflt) (b.2.2.2.2.2.2.2.2.2.2.2.2.2.2.2.2.1) != (0 : Int))
    ·rw [qg, qg, key _ (by omega), qH]
    ·rw [qi, qi, WS k b fnd 7 _ _ (by omega), ZQ k b fnd 7 _ _ (by omega), qb, qd rfl, key _ (by simp), qw]
def msR (sent : List Int) : List Int → List wO
 | [] => []
 | x :: t => (bif !wj x sent then [(6, x, 2)] else []) ++ msR sent t
def msO (sent : List Int) : List T9.T → List wO
 | [] => []
 | s :: t => msR sent s.2.2.1 ++ msO sent t
def shR : List vr → List Int
 | [] => []
 | s :: t => s.2.2 ++ shR t
theorem qi1 (sent : List Int) : ∀ l : List Int, (msR sent l).length ≤ l.length
 | [] => qT _
 | x :: t => by
  have := qi1 sent t
  rw [msR, qn, wc]
  cases wj x sent <;> simp <;> omega
theorem qR0 (k : Nat) (b q : T17.T) (q2 : List wO) (L : List T9.T) (len n : Int) (m : List Int) (hm : m.length ≤ 40) (sent : List Int) (hs : sent.length ≤ 100000) (hk : 200000 ≤ k) : ∀ (d i j : Nat) (fnd : List wO), i + d = m.length → fnd.length + d ≤ 100000 →
  ZP k q q2 (d + 1 + j) L len n m (m.length : Int) (i : Int) b fnd sent = ZR k q q2 j L len (qa .i64 (n + 1)) b (fnd ++ msR sent (m.drop i)) sent := by
 intro d
 induction d with
 | zero =>
  intro i j fnd hi hf
  rw [show 0 + 1 + j = j + 1 by omega, ZP, qx (by omega : ¬ (i : Int) < (m.length : Int)), qg, qh (by omega), msR, qY]
 | succ d ih =>
  intro i j fnd hi hf
  rw [show d + 1 + 1 + j = (d + 1 + j) + 1 by omega, ZP, qA (by omega : (i : Int) < (m.length : Int)), qi, qd ⟨by omega, by omega⟩, qc, qlt k _ _ (by omega) (by omega), qoQ k _ _ (by omega) (by omega), qb, qd rfl, WS k b fnd _ _ _ (by omega), ZQ k b fnd _ _ _ (by omega), qF i (by omega), qq m i I.dflt (by omega), msR]
  cases wj (m.getD i I.dflt) sent
  ·rw [qd1, qi, qi, qb, qd rfl]
   dsimp only
   rw [ih (i + 1) j _ (by omega) (by rw [qn, qk]; omega), qw]
  ·rw [vB, qg, qg, ih (i + 1) j _ (by omega) (by omega), qH]
theorem qSy (k : Nat) (b q : T17.T) (q2 : List wO) (L : List T9.T) (hl : L.length ≤ 40) (hL : ∀ s ∈ L, s.2.2.1.length ≤ 40) (sent : List Int) (hs : sent.length ≤ 100000) (hk : 200000 ≤ k) : ∀ (d i j : Nat) (fnd : List wO), i + d = L.length → d * 50 < j → fnd.length + d * 50 ≤ 50000 →
  ZR k q q2 j L (L.length : Int) (i : Int) b fnd sent = some (b, fnd ++ msO sent (L.drop i)) := by
 intro d
 induction d with
 | zero =>
  intro i j fnd hi hj hf
  obtain ⟨j, rfl⟩ := qQ (by omega : 0 < j)
  rw [ZR, qx (by omega : ¬ (i : Int) < (L.length : Int)), qg, qh (by omega), msO, qY]
 | succ d ih =>
  intro i j fnd hi hj hf
  rw [qTX] at hj hf
  have hm := hL _ (Vh L i T9.dflt (by omega))
  generalize hz : d * 50 = z at *
  obtain ⟨j, rfl⟩ : ∃ q, j = ((L.getD i T9.dflt).2.2.1.length + 1 + q) + 1 := ⟨j - (L.getD i T9.dflt).2.2.1.length - 2, by omega⟩
  have h := qR0 k b q q2 L (L.length : Int) (i : Int) (L.getD i T9.dflt).2.2.1 hm sent hs hk (L.getD i T9.dflt).2.2.1.length 0 j fnd (by omega) (by omega)
  rw [wm] at h
  rw [show ((0 : Nat) : Int) = 0 from rfl] at h
  have hml := qi1 sent (L.getD i T9.dflt).2.2.1
  rw [ZR, qA (by omega : (i : Int) < (L.length : Int)), qi, qd ⟨by omega, by omega⟩, qc, h, qF i (by omega), ih (i + 1) j _ (by omega) (by omega) (by rw [qn]; omega), qq L i T9.dflt (by omega), msO, qw]
theorem qTg (k : Nat) (hk : 301000 ≤ k) (b q : T17.T) (g : GB b) (q2 : List wO) (L : List vr) (hl : L.length ≤ 40) (hL : ∀ s ∈ L, s.2.2.length ≤ 40) : ∀ (d i j : Nat) (fnd : List wO) (sent : List Int), i + d = L.length → d * 50 + 3000 < j → fnd.length + d * 50 ≤ 40000 → sent.length + d * 50 ≤ 40000 →
  Z2 k q q2 j L (L.length : Int) (i : Int) b fnd sent = some (b, fnd ++ (Vq b (L.drop i) ++ msO (sent ++ shR (L.drop i)) (b.2.2.2.2.2.2.2.2.2.2.2.2.2.2.2.1))) := by
 have hO := g.bOrders
 intro d
 induction d with
 | zero =>
  intro i j fnd sent hi hj hf hs
  obtain ⟨j, rfl⟩ := qQ (by omega : 0 < j)
  rw [Z2, qx (by omega : ¬ (i : Int) < (L.length : Int)), qg, qh (by omega), Vq, qH, shR, qY]
  exact qSy k b q q2 (b.2.2.2.2.2.2.2.2.2.2.2.2.2.2.2.1) hO (fun s h => (g.ord s h).2) sent (by omega) (by omega) (b.2.2.2.2.2.2.2.2.2.2.2.2.2.2.2.1.length) 0 j fnd (by omega) (by omega) (by omega)
 | succ d ih =>
  intro i j fnd sent hi hj hf hs
  rw [qTX] at hj hf hs
  have hm := hL _ (Vh L i T11.dflt (by omega))
  generalize hz : d * 50 = z at *
  obtain ⟨j, rfl⟩ : ∃ q, j = ((L.getD i T11.dflt).2.2.length + 1 + q) + 1 := ⟨j - (L.getD i T11.dflt).2.2.length - 2, by omega⟩
  have h := qRZ k hk b q g q2 L (L.length : Int) (i : Int) (L.getD i T11.dflt).2.2 hm (L.getD i T11.dflt).2.2.length 0 j fnd sent (by omega) (by omega) (by omega)
  rw [wm] at h
  rw [show ((0 : Nat) : Int) = 0 from rfl] at h
  have hml := qcH b (L.getD i T11.dflt).2.2
  rw [Z2, qA (by omega : (i : Int) < (L.length : Int)), qi, qd ⟨by omega, by omega⟩, qc, h, qF i (by omega), ih (i + 1) j _ _ (by omega) (by omega) (by rw [qn]; omega) (by rw [qn]; omega), qq L i T11.dflt (by omega), Vq, shR, qw, qw, qw]
def qad (b : T17.T) : List wO := bif Zn (b.2.2.2.2.2.2.2.2.2.2.2.2.2.2.2.2.2.1) != 0 then [(6, 0, Zn (b.2.2.2.2.2.2.2.2.2.2.2.2.2.2.2.2.2.1))] else Vq b (b.2.2.2.2.2.2.2.2.2.2.2.2.2.2.2.2.2.1) ++ msO (shR (b.2.2.2.2.2.2.2.2.2.2.2.2.2.2.2.2.2.1)) (b.2.2.2.2.2.2.2.2.2.2.2.2.2.2.2.1)
theorem qkA (k : Nat) (hk : 301000 ≤ k) (b : T17.T) (g : GB b) (fnd : List wO) (hf : fnd.length ≤ 20000) : qj2 k b fnd = some (b, fnd ++ qad b) := by
 have hS := g.bShipments
 unfold qj2 qad
 rw [qBg k (by omega) _ hS g.shp, qPm k (by omega) _ hS g.shp, qb, qd rfl]
 cases h : (Zn (b.2.2.2.2.2.2.2.2.2.2.2.2.2.2.2.2.2.1) != 0)
 ·rw [qg, qg]
  have := qTg k hk b b g fnd (b.2.2.2.2.2.2.2.2.2.2.2.2.2.2.2.2.2.1) hS g.shp (b.2.2.2.2.2.2.2.2.2.2.2.2.2.2.2.2.2.1.length) 0 k fnd [] (by omega) (by omega) (by omega) (by simp; omega)
  exact this
 ·rw [qi, qi, WS k b fnd _ _ _ (by omega), ZQ k b fnd _ _ _ (by omega), qb, qd rfl]
theorem quK (k : Nat) (hk : 301000 ≤ k) (b : T17.T) (g : GB b) (fnd : List wO) (hf : fnd.length ≤ 20000) : qfJ k b fnd = (b, fnd ++ qad b) := by
 unfold qfJ; rw [qkA k hk b g fnd hf]; rfl
abbrev Vx := T9.T
def hdB (s : Vx) : List wO := bif decide ((s.2.1.length : Int) > qa .i64 (s.1.2.2.2.2.2.2.1 + s.1.2.2.2.2.2.2.2.1)) then [(5, s.1.1, 32)] else []
def hdC (s : Vx) : List wO := bif (s.2.2.2 && decide ((s.2.2.1.length : Int) < qa .i64 (s.1.2.2.2.2.2.2.1 - s.1.2.2.2.2.2.2.2.2.1))) then [(5, s.1.1, 29)] else []
def hdS (s : Vx) : List wO := bif Q4 s.1 != 0 then [(5, s.1.1, Q4 s.1)] else hdB s ++ hdC s
def Xm (id : Int) (taken : List Int) : List Int → List Int → List wO
 | _, [] => []
 | bef, x :: t => (bif (wj x taken || wj x bef) then [(5, id, 6)] else []) ++ Xm id taken (bef ++ [x]) t
def Vi (id : Int) (rolls : List Int) : List Int → List Int → List wO
 | _, [] => []
 | bef, x :: t => (bif !wj x rolls then [(5, id, 7)] else []) ++ ((bif wj x bef then [(5, id, 6)] else []) ++ Vi id rolls (bef ++ [x]) t)
def qaQ : List Int → List Vx → List wO
 | _, [] => []
 | taken, s :: t => hdS s ++ (Xm s.1.1 taken [] s.2.1 ++ (Vi s.1.1 s.2.1 [] s.2.2.1 ++ qaQ (taken ++ s.2.1) t))
theorem qoP (s : Vx) : (hdS s).length ≤ 2 := by
 unfold hdS hdB hdC
 cases (Q4 s.1 != 0)
 ·rw [qg, qn]
  cases decide ((s.2.1.length : Int) > qa .i64 (s.1.2.2.2.2.2.2.1 + s.1.2.2.2.2.2.2.2.1)) <;> cases (s.2.2.2 && decide ((s.2.2.1.length : Int) < qa .i64 (s.1.2.2.2.2.2.2.1 - s.1.2.2.2.2.2.2.2.2.1))) <;> simp
 ·simp
theorem qej (id : Int) (taken : List Int) : ∀ (l b : List Int), (Xm id taken b l).length ≤ l.length
 | [], _ => by simp [Xm]
 | x :: t, b => by
  have := qej id taken t (b ++ [x])
  rw [Xm, qn, wc]
  cases (wj x taken || wj x b) <;> simp <;> omega
theorem qj7 (id : Int) (rolls : List Int) : ∀ (l b : List Int), (Vi id rolls b l).length ≤ 2 * l.length
 | [], _ => by simp [Vi]
 | x :: t, b => by
  have := qj7 id rolls t (b ++ [x])
  rw [Vi, qn, qn, wc]
  cases wj x rolls <;> cases wj x b <;> simp <;> omega
theorem qns (m : List Int) (i : Nat) : qdv (i - qt 0) (qaJ (qt 0) m) = m.take i := by
 rw [show qt 0 = 0 from rfl, Nat.sub_zero, wm]
theorem qSo (k : Nat) (hk : 1000 ≤ k) (b q : T17.T) (q2 : List wO) (id : Int) (L : List Vx) (len n : Int) (taken : List Int) (ht : taken.length ≤ 100000) (s : Vx) (h1 : s.2.1.length ≤ 40) (h2 : s.2.2.1.length ≤ 40) : ∀ (d i j : Nat) (fnd : List wO), i + d = s.2.2.1.length → fnd.length + 2 * d ≤ 100000 →
  WJ k q q2 (2 * d + 1 + j) id L len n s.2.2.1 (s.2.2.1.length : Int) (i : Int) b fnd taken s = WZ k q q2 j L len (qa .i64 (n + 1)) b (fnd ++ Vi id s.2.1 (s.2.2.1.take i) (s.2.2.1.drop i)) (taken ++ s.2.1) := by
 intro d
 induction d with
 | zero =>
  intro i j fnd hi hf
  rw [show 2 * 0 + 1 + j = j + 1 by omega, WJ, qx (by omega : ¬ (i : Int) < (s.2.2.1.length : Int)), qg, qh (by omega), Vi, qY, qd (by omega)]
 | succ d ih =>
  intro i j fnd hi hf
  have htk : s.2.2.1.take (i + 1) = s.2.2.1.take i ++ [s.2.2.1.getD i I.dflt] := wU s.2.2.1 i I.dflt (by omega)
  have htl : (s.2.2.1.take i).length ≤ 40 := by rw [Qt]; omega
  have h3 : (0 : Int) ≤ (i : Int) := by omega
  have h4 : (i : Int) ≤ (s.2.2.1.length : Int) := by omega
  have e23 : ∀ F : List wO, F.length ≤ fnd.length + 1 → YG k q q2 (2 * d + 1 + j + 1) id (i : Int) (s.2.2.1.getD i I.dflt) L len n s.2.2.1 (s.2.2.1.length : Int) (i : Int) b F taken s = WZ k q q2 j L len (qa .i64 (n + 1)) b (F ++ ((bif wj (s.2.2.1.getD i I.dflt) (s.2.2.1.take i) then [(5, id, 6)] else []) ++ Vi id s.2.1 (s.2.2.1.take (i + 1)) (s.2.2.1.drop (i + 1)))) (taken ++ s.2.1) := fun F hF => by
   rw [YG, qc, qns, qlt k _ _ (by omega) (by omega), qoQ k _ _ (by omega) (by omega), qd ⟨Wg _, h3, h4, rfl⟩, WS k b F _ _ _ (by omega), ZQ k b F _ _ _ (by omega), qF i (by omega)]
   cases wj (s.2.2.1.getD i I.dflt) (s.2.2.1.take i)
   ·rw [qg, qg, ih (i + 1) j F (by omega) (by omega), qH]
   ·rw [qi, qi, qb, qd rfl]
    dsimp only
    rw [ih (i + 1) j _ (by omega) (by rw [qn, qk]; omega), qw]
  rw [show 2 * (d + 1) + 1 + j = (2 * d + 1 + j + 1) + 1 by omega, WJ, qA (by omega : (i : Int) < (s.2.2.1.length : Int)), qi, qd ⟨by omega, by omega⟩, qc, qlt k _ _ (by omega) (by omega), qoQ k _ _ (by omega) (by omega), qb, qd rfl, WS k b fnd _ _ _ (by omega), ZQ k b fnd _ _ _ (by omega), qq s.2.2.1 i I.dflt (by omega), Vi, ← htk]
  cases wj (s.2.2.1.getD i I.dflt) s.2.1
  ·rw [qd1, qi, qi, qb, qd rfl]
   dsimp only
   rw [e23 _ (by simp), qw]
  ·rw [vB, qg, qg, e23 _ (by omega), qH]
theorem qSz (k : Nat) (hk : 200000 ≤ k) (b q : T17.T) (q2 : List wO) (id : Int) (L : List Vx) (len n : Int) (taken : List Int) (ht : taken.length ≤ 100000) (s : Vx) (h1 : s.2.1.length ≤ 40) : ∀ (d i j : Nat) (fnd : List wO), i + d = s.2.1.length → fnd.length + d ≤ 100000 →
  WB k q q2 (d + 1 + j) id L len n s.2.1 (s.2.1.length : Int) (i : Int) b fnd taken s = WJ k q q2 j id L len n s.2.2.1 (s.2.2.1.length : Int) 0 b (fnd ++ Xm id taken (s.2.1.take i) (s.2.1.drop i)) taken s := by
 intro d
 induction d with
 | zero =>
  intro i j fnd hi hf
  rw [show 0 + 1 + j = j + 1 by omega, WB, qx (by omega : ¬ (i : Int) < (s.2.1.length : Int)), qg, qh (by omega), Xm, qY]
 | succ d ih =>
  intro i j fnd hi hf
  have htk : s.2.1.take (i + 1) = s.2.1.take i ++ [s.2.1.getD i I.dflt] := wU s.2.1 i I.dflt (by omega)
  have htl : (s.2.1.take i).length ≤ 40 := by rw [Qt]; omega
  have h3 : (0 : Int) ≤ (i : Int) := by omega
  have h4 : (i : Int) ≤ (s.2.1.length : Int) := by omega
  rw [show d + 1 + 1 + j = (d + 1 + j) + 1 by omega, WB, qA (by omega : (i : Int) < (s.2.1.length : Int)), qi, qd ⟨by omega, by omega⟩, qc, qns, qlt k _ _ (by omega) (by omega), qoQ k _ _ (by omega) (by omega), qlt k (s.2.1.take i) _ (by omega) (by omega), qoQ k (s.2.1.take i) _ (by omega) (by omega), WS k b fnd _ _ _ (by omega), ZQ k b fnd _ _ _ (by omega), qF i (by omega), qq s.2.1 i I.dflt (by omega), Xm, ← htk]
  cases wj (s.2.1.getD i I.dflt) taken
  ·rw [qg, qd ⟨rfl, rfl, Wg _, h3, h4, rfl⟩, zn]
   cases wj (s.2.1.getD i I.dflt) (s.2.1.take i)
   ·rw [qg, qg, ih (i + 1) j fnd (by omega) (by omega), qH]
   ·rw [qi, qi, qb, qd rfl]
    dsimp only
    rw [ih (i + 1) j _ (by omega) (by rw [qn, qk]; omega), qw]
  ·rw [qi, qd ⟨rfl, rfl⟩, qb, qd rfl, zX, qi]
   dsimp only
   rw [ih (i + 1) j _ (by omega) (by rw [qn, qk]; omega), qw]
theorem qSH (k : Nat) (hk : 200000 ≤ k) (b q : T17.T) (q2 : List wO) (L : List Vx) (len n : Int) (taken : List Int) (ht : taken.length ≤ 100000) (s : Vx) (h1 : s.2.1.length ≤ 40) (h2 : s.2.2.1.length ≤ 40) (j : Nat) (fnd : List wO) (hf : fnd.length ≤ 90000) :
  Zj k q q2 ((s.2.1.length + 1 + (2 * s.2.2.1.length + 1 + j)) + 1) s.1.1 L len n b fnd taken s = WZ k q q2 j L len (qa .i64 (n + 1)) b (fnd ++ (Xm s.1.1 taken [] s.2.1 ++ Vi s.1.1 s.2.1 [] s.2.2.1)) (taken ++ s.2.1) := by
 have e13 := qSz k hk b q q2 s.1.1 L len n taken ht s h1 s.2.1.length 0 (2 * s.2.2.1.length + 1 + j) fnd (by omega) (by omega)
 have hl := qej s.1.1 taken s.2.1 []
 have e19 := qSo k (by omega) b q q2 s.1.1 L len n taken ht s h1 h2 s.2.2.1.length 0 j (fnd ++ Xm s.1.1 taken [] s.2.1) (by omega) (by rw [qn]; omega)
 rw [show ((0 : Nat) : Int) = 0 from rfl, wm, List.take_zero] at e13 e19
 rw [Zj, e13, e19, qw]
theorem qTq (k : Nat) (hk : 301000 ≤ k) (b q : T17.T) (g : GB b) (q2 : List wO) (L : List Vx) (hl : L.length ≤ 40) (hL : ∀ s ∈ L, s.2.1.length ≤ 40 ∧ s.2.2.1.length ≤ 40) : ∀ (d i j : Nat) (fnd : List wO) (taken : List Int), i + d = L.length → d * 200 < j → fnd.length + d * 200 ≤ 15000 → taken.length + d * 200 ≤ 15000 →
  WZ k q q2 j L (L.length : Int) (i : Int) b fnd taken = some (b, fnd ++ (qaQ taken (L.drop i) ++ qad b)) := by
 intro d
 induction d with
 | zero =>
  intro i j fnd taken hi hj hf ht
  obtain ⟨j, rfl⟩ := qQ (by omega : 0 < j)
  rw [WZ, qx (by omega : ¬ (i : Int) < (L.length : Int)), qg, qh (by omega), qaQ, qH, qkA k hk b g fnd (by omega), quK k hk b g fnd (by omega), qb, qd rfl]
 | succ d ih =>
  intro i j fnd taken hi hj hf ht
  rw [qTX] at hj hf ht
  have hm := hL _ (Vh L i T9.dflt (by omega))
  have hrw : L.drop i = L.getD i T9.dflt :: L.drop (i + 1) := qq L i T9.dflt (by omega)
  generalize hs : L.getD i T9.dflt = s at *
  obtain ⟨m1, m2⟩ := hm
  generalize hz : d * 200 = z at *
  have ha := qoP s
  have hb := qej s.1.1 taken s.2.1 []
  have hc := qj7 s.1.1 s.2.1 s.2.2.1 []
  have tl : ∀ (F : List wO) (J : Nat), F.length ≤ fnd.length + 2 → z + 160 < J → Zj k q q2 J s.1.1 L (L.length : Int) (i : Int) b F taken s = some (b, F ++ (Xm s.1.1 taken [] s.2.1 ++ (Vi s.1.1 s.2.1 [] s.2.2.1 ++ (qaQ (taken ++ s.2.1) (L.drop (i + 1)) ++ qad b)))) := fun F J hF hJ => by
   obtain ⟨J, rfl⟩ : ∃ q, J = (s.2.1.length + 1 + (2 * s.2.2.1.length + 1 + q)) + 1 := ⟨J - s.2.1.length - 2 * s.2.2.1.length - 3, by omega⟩
   rw [qSH k (by omega) b q q2 L (L.length : Int) (i : Int) taken (by omega) s m1 m2 J F (by omega), qF i (by omega), ih (i + 1) J _ _ (by omega) (by omega) (by rw [qn, qn]; omega) (by rw [qn]; omega), qw, qw]
  obtain ⟨j, rfl⟩ := qQ (by omega : 0 < j)
  rw [WZ, qA (by omega : (i : Int) < (L.length : Int)), qi, qd ⟨by omega, by omega⟩, qc, hs, qjt, qwy, qb, qd rfl, hrw, qaQ]
  unfold hdS
  cases he : (Q4 s.1 != (0 : Int))
  ·have t10 : ∀ (F : List wO), F.length ≤ fnd.length + 1 → Ym k q q2 j s.1.1 L (L.length : Int) (i : Int) b F taken s = some (b, F ++ (hdC s ++ (Xm s.1.1 taken [] s.2.1 ++ (Vi s.1.1 s.2.1 [] s.2.2.1 ++ (qaQ (taken ++ s.2.1) (L.drop (i + 1)) ++ qad b))))) := fun F hF => by
    obtain ⟨j, rfl⟩ := qQ (by omega : 0 < j)
    rw [Ym, WS k b F _ _ _ (by omega), ZQ k b F _ _ _ (by omega)]
    unfold hdC
    cases (s.2.2.2 && decide ((s.2.2.1.length : Int) < qa .i64 (s.1.2.2.2.2.2.2.1 - s.1.2.2.2.2.2.2.2.2.1)))
    ·rw [qg, qg, tl F j (by omega) (by omega), qH]
    ·rw [qi, qi, qb, qd rfl]
     dsimp only
     rw [tl _ j (by rw [qn, qk]; omega) (by omega), qw]
   rw [qg, qg, WS k b fnd 5 s.1.1 32 (by omega), ZQ k b fnd 5 s.1.1 32 (by omega), qw, qw, qw, qw]
   unfold hdB
   cases decide ((s.2.1.length : Int) > qa .i64 (s.1.2.2.2.2.2.2.1 + s.1.2.2.2.2.2.2.2.1))
   ·rw [qg, qg, t10 fnd (by omega), qH]
   ·rw [qi, qi, qb, qd rfl]
    dsimp only
    rw [t10 _ (by rw [qn, qk]; omega), qw]
  ·rw [qi, qi, WS k b fnd 5 _ _ (by omega), ZQ k b fnd 5 _ _ (by omega), qb, qd rfl]
   dsimp only
   rw [tl _ j (by rw [qn, qk]; omega) (by omega), qw, qw, qw, qw]
def zB (b : T17.T) : List wO := qaQ [] (b.2.2.2.2.2.2.2.2.2.2.2.2.2.2.2.1) ++ qad b
theorem quk (k : Nat) (hk : 301000 ≤ k) (b : T17.T) (g : GB b) (fnd : List wO) (hf : fnd.length ≤ 1000) : qf3 k b fnd = some (b, fnd ++ zB b) := by
 have hO := g.bOrders
 unfold qf3 zB
 exact qTq k hk b b g fnd (b.2.2.2.2.2.2.2.2.2.2.2.2.2.2.2.1) hO g.ord (b.2.2.2.2.2.2.2.2.2.2.2.2.2.2.2.1.length) 0 k fnd [] (by omega) (by omega) (by omega) (by simp; omega)
theorem qFy (k : Nat) (hk : 301000 ≤ k) (b : T17.T) (g : GB b) (fnd : List wO) (hf : fnd.length ≤ 1000) : qa8 k b fnd = (b, fnd ++ zB b) := by
 unfold qa8; rw [quk k hk b g fnd hf]; rfl
end Go.AM
namespace Go.AM
open Go Go.Proofs
noncomputable section
def qC5 (r : T17.T) : AV := .sub 2 0 1 0 1
def qIg (a : T17.T) (b : List T18.T) (r : T17.T) : List (Nat × Blk) := [(0, .var 140 ((qy (qr T17 r)) ++ [.own 1 0])), (0, .row 54 T18 b), (0, .var 1 [.fn (Fn.func 48) [.ptr 0 0 0] []])]
abbrev qQh (a : T17.T) (b : List T18.T) (r : T17.T) : Prop := CC Tryz.prog 47 [.ptr 0 0 0] [.var 140 (qy (qr T17 a) ++ [.own 1 0]), .row 54 T18 b] (qC5 r) (qIg a b r)
def qss (k : Nat) (a : T17.T) (b : List T18.T) : Option T17.T :=
 some a
def qr4 := fun k a b => (qss k a b).getD (T17).dflt
def qIh (k : Nat) : Ke := (47, fun
 | [.ptr _ _ _] => some [true]
 | _ => none, fun
 | [.ptr 0 0 0], [.var 140 d, .row 54 tx_22_ qx_22] => (qW [] T17 (d.take 22)).bind fun a => (qE tx_22_ T18 qx_22).bind fun b => some (.one (qC5 (qr4 k a b), qIg a b (qr4 k a b)))
 | _, _ => none)
theorem qRN (k a b r) (h : qss k a b = some r): qQh a b r := qN Tryz.f47 (go (qD [qmw k]) [] [] [.autoB [2] true []] (gL h))
theorem qSt {k a b} (h : (qss k a b).isSome): qQh a b (qr4 k a b) := qJ h (qRN k a b)
abbrev qmE : Type := List T18.T × Int
def qpc (r : qmE) : AV := .tup [ro T18 r.1, ri r.2]
abbrev qHe (a : T17.T) (r : qmE) : Prop := CC Tryz.prog 33 [.agg (qy (qr T17 a)), .r (.v (.func (.func 47) #[] #[]))] [] (qpc r) (nb r)
def qsn := fun y0 y1 => (⟨qI 29 [(6, .ptr 1000000 0 0), (16, .sub 1000002 0 1 0 1), (17, ri 1), (18, ri 0)], [(1000000, 0, .var 140 ((qy (qr T17 y0)) ++ [.own 1000001 0])), (1000001, 0, .row 54 T18 y1), (1000002, 0, .var 1 [.fn (Fn.func 48) [.ptr 1000000 0 0] []])]⟩ : St)
def qsx := fun y0 y1 => (⟨qI 29 [(6, .ptr 1000000 0 0), (16, .sub 1000002 0 1 0 1), (17, ri 1), (18, ri 1)], [(1000000, 0, .var 140 ((qy (qr T17 y0)) ++ [.own 1000001 0])), (1000001, 0, .row 54 T18 y1), (1000002, 0, .var 1 [.fn (Fn.func 48) [.ptr 1000000 0 0] []])]⟩ : St)
mutual
def qag (k : Nat) : Nat → T17.T → List T18.T → Option qmE
 | 0, _, _ => none
 | j + 1, y0, y1 =>
 if ((0 : Int) ≤ (0 : Int)) ∧ ((0 : Int) < (↑ (1 : Nat) : Int)) then
 if ((qf3 k y0 y1).isSome) then
 YU k j ((qa8 k y0 y1).1) ((qa8 k y0 y1).2)
 else none
 else none
def YU (k : Nat) : Nat → T17.T → List T18.T → Option qmE
 | 0, _, _ => none
 | j + 1, y0, y1 =>
 some (y1, 0)
end
def qi0 (k : Nat) (a : T17.T) : Option qmE :=
 if ((qaY k a).isSome) then
 bif (qcW k a) then
 some ([], 8)
 else
 if ((qss k a []).isSome) then
 qag k k (qr4 k a []) ([])
 else none
 else none
def qi3 := fun k a => (qi0 k a).getD ([], 0)
def qNK (k : Nat) : Ke := (33, fun
 | [_, .r (.v (.func (.func 47) _ _))] => some [false, false]
 | _ => none, fun
 | [.agg b, .r (.v (.func (.func 47) _ _))], [] => (qW [] T17 b).bind fun a => some (.one (qpc (qi3 k a), []))
 | _, _ => none)
def qJb (k : Nat) : Calld := qD [qmL k, qmw k, qIh k]
def qAZ : List (Nat × List Cmd) := [(5, [.key 18, .autoB [6, 16, 17, 18] false []])]
abbrev qI1 := EP Tryz.f33 0 qpc nb
theorem qAa (k) : ∀ j, (∀ {y0 y1}, qI1 5 (qsn y0 y1) (qag k j y0 y1)) ∧ (∀ {y0 y1}, qI1 5 (qsx y0 y1) (YU k j y0 y1))
 | 0 => by and_intros <;> intros <;> exact e0
 | j + 1 => by
  have ih := @qAa k j
  have g := @go (qJb k) [] qAZ [.frz 4 false (RTy.list T18), .autoB [4, 5] true []]
  refine ⟨?_, ?_⟩
  ·intro y0 y1 r h
   rw [qag] at h
   exact g (gU1 h (.leaf (.tup [.r (.ro T18 y1), .r (.v (.int .i64 0))]) []) fun h => qS h fun h => qu h qDb fun h => gD h 20005 ih.2)
  ·intro y0 y1 r h
   rw [YU] at h
   exact g (gU2 h (.stuck 5001) fun h => gL h)
theorem qNE (k a r) (h : qi0 k a = some r): qHe a r := qN Tryz.f33 (go (qJb k) [] qAZ [.frz 4 false (RTy.list T18), .autoB [4, 5] true []] (qu h qmc fun h => qB h fun h => qu h qSt fun h => gD h 10005 (qAa k k).1))
theorem qPs {k a} (h : (qi0 k a).isSome): qHe a (qi3 k a) := qJ h (qNE k a)
abbrev qFl : Type := List T18.T × Int
def qzI (r : qFl) : AV := .tup [ro T18 r.1, ri r.2]
abbrev qOm (a : T17.T) (r : qFl) : Prop := CC Tryz.prog 19 [.agg (qy (qr T17 a))] [] (qzI r) (nb r)
def qoE (k : Nat) (a : T17.T) : Option qFl :=
 if ((qi0 k a).isSome) then
 some ((qi3 k a).1, (qi3 k a).2)
 else none
def XG := fun k a => (qoE k a).getD ([], 0)
def qRT (k : Nat) : Ke := (19, mo 1, fun
 | [.agg b], [] => (qW [] T17 b).bind fun a => some (.one (qzI (XG k a), []))
 | _, _ => none)
theorem qSD (k a r) (h : qoE k a = some r): qOm a r := qN Tryz.f19 (go (qD [qIh k, qNK k]) [] [] [.frz 2 false (RTy.list T18), .autoB [2, 3] true []] (qu h qPs fun h => gL h))
theorem qRP {k a} (h : (qoE k a).isSome): qOm a (XG k a) := qJ h (qSD k a)
abbrev qRQ (a : T17.T) (r : Bool) : Prop := CC Tryz.prog 6 [.agg (qy (qr T17 a))] [] (rb r) (nb r)
def qyE (k : Nat) (a : T17.T) : Option Bool :=
 if ((qgC k a).isSome) then
 bif (qm2 k a) then
 if ((qgA k ).isSome) then
 some (YT k)
 else none
 else
 if ((qoE k a).isSome) then
 if ((qe5 k a).isSome) then
 bif ((XG k a).2 == (QF k a).2) then
 bif (true && qa0 k (XG k a).1 (QF k a).1) then
 if (((XG k a).2 == (QF k a).2) = true) ∧ ((qcM k (XG k a).1 (QF k a).1).isSome) ∧ ((true && qa0 k (XG k a).1 (QF k a).1) = true) ∧ ((qgA k ).isSome) then
 some (true && YT k)
 else none
 else
 if (((XG k a).2 == (QF k a).2) = true) ∧ ((qcM k (XG k a).1 (QF k a).1).isSome) ∧ ((true && qa0 k (XG k a).1 (QF k a).1) = false) then
 some false
 else none
 else
 if (((XG k a).2 == (QF k a).2) = false) ∧ (false = false) then
 some false
 else none
 else none
 else none
 else none
theorem qQt (k a r) (h : qyE k a = some r): qRQ a r := qN Tryz.f6 (go (qD [qRj k, qOD k, qOM k, qRT k, qMI k]) [] [] [.autoB [2] true []] (qu h qN3 fun h => gS h (fun h => qu h qBz fun h => gL h) fun h => qu h qRP fun h => qu h qKJ fun h => gS h (fun h => gS h (fun h => gN h (fun q => qf q.1 (qf (qzo q.2.1) (qf q.2.2.1 (qf (qBz q.2.2.2) qR)))) fun h => gL h) fun h => gN h (fun q => qf q.1 (qf (qzo q.2.1) (qf q.2.2 qR))) fun h => gL h) fun h => gU2 h (.need [((XG k a).2 == (QF k a).2) = false, false = true, CC Tryz.prog 13 (qsh ) (qvN ) (qoF (YT k )) (qrZ  (YT k ))] (.leaf (.r (.v (.bool (true && YT k)))) [])) fun h => qS h fun h => gL h))
end
def inO (x : Int) (l : List Vx) : Bool := l.any fun s => wj x s.2.1
def tkR : List Vx → List Int
 | [] => []
 | s :: t => s.2.1 ++ tkR t
theorem qtV (x : Int) (a b : List Int) : wj x (a ++ b) = (wj x a || wj x b) := by unfold wj; rw [List.any_append]
theorem qC6 (x : Int) : ∀ l : List Vx, wj x (tkR l) = inO x l
 | [] => rfl
 | s :: t => by
  rw [tkR, qtV, qC6 x t]; rfl
theorem qvC : ∀ a b : List Vx, tkR (a ++ b) = tkR a ++ tkR b
 | [], b => rfl
 | s :: t, b => by
  show s.2.1 ++ tkR (t ++ b) = _
  rw [qvC t b, ← qw]; rfl
theorem qEW (k : Nat) (l : List Int) (x : Int) (hl : l.length ≤ 100000) (hk : l.length < k) : Zg k l (l.length : Int) x = some (wj x l) ∧ Vp k l (l.length : Int) x = wj x l := by
 have h1 := qm7 k l x l.length (qT _) hl hk
 have h2 := qq3 k l x l.length (qT _) hl hk
 rw [wI (qT _)] at h1 h2
 exact ⟨h1, h2⟩
theorem qQ1 (k : Nat) (hk : 1000 ≤ k) (id : Int) (s : Vx) (h1 : s.2.1.length ≤ 40) (h2 : s.2.2.1.length ≤ 40) : ∀ (d i j : Nat) (out : List wO), i + d = s.2.2.1.length → 2 * d < j → out.length + 2 * d ≤ 100000 →
  Wq k j id (i : Int) out s = some (out ++ Vi id s.2.1 (s.2.2.1.take i) (s.2.2.1.drop i)) := by
 intro d
 induction d with
 | zero =>
  intro i j out hi hj ho
  obtain ⟨j, rfl⟩ := qQ (by omega : 0 < j)
  rw [Wq, qx (by omega : ¬ (i : Int) < (s.2.2.1.length : Int)), qg, qh (by omega), Vi, qY]
 | succ d ih =>
  intro i j out hi hj ho
  obtain ⟨j, rfl⟩ : ∃ q, j = (q + 1) + 1 := ⟨j - 2, by omega⟩
  have htk : s.2.2.1.take (i + 1) = s.2.2.1.take i ++ [s.2.2.1.getD i I.dflt] := wU s.2.2.1 i I.dflt (by omega)
  have h3 : (0 : Int) ≤ (i : Int) := by omega
  have h4 : (i : Int) < (s.2.2.1.length : Int) := by omega
  obtain ⟨a1, a2⟩ := qEW k s.2.1 (s.2.2.1.getD i I.dflt) (by omega) (by omega)
  have b1 := qm7 k s.2.2.1 (s.2.2.1.getD i I.dflt) i (by omega) (by omega) (by omega)
  have b2 := qq3 k s.2.2.1 (s.2.2.1.getD i I.dflt) i (by omega) (by omega) (by omega)
  have e27 : ∀ F : List wO, F.length ≤ out.length + 1 → Xk k (j + 1) id (i : Int) F s = some (F ++ ((bif wj (s.2.2.1.getD i I.dflt) (s.2.2.1.take i) then [(5, id, 6)] else []) ++ Vi id s.2.1 (s.2.2.1.take (i + 1)) (s.2.2.1.drop (i + 1)))) := fun F hF => by
   rw [Xk, qc, b1, b2, qd ⟨h3, h4, rfl⟩, qF i (by omega), qd (by simp only [qk]; omega)]
   cases wj (s.2.2.1.getD i I.dflt) (s.2.2.1.take i)
   ·rw [qg, qg, ih (i + 1) j F (by omega) (by omega) (by omega), qH]
   ·rw [qi, qi, ih (i + 1) j _ (by omega) (by omega) (by rw [qn, qk]; omega), qw]
  rw [Wq, qA h4, qi, qc, a1, a2, qd ⟨h3, h4, rfl⟩, qd (by simp only [qk]; omega), qq s.2.2.1 i I.dflt (by omega), Vi, ← htk]
  cases wj (s.2.2.1.getD i I.dflt) s.2.1
  ·rw [qd1, qi, qi, e27 _ (by simp), qw]
  ·rw [vB, qg, qg, e27 _ (by omega), qH]
theorem qNn (k : Nat) (hk : 1000 ≤ k) (b : T17.T) (g : GB b) (o : Nat) (ho : o ≤ b.2.2.2.2.2.2.2.2.2.2.2.2.2.2.2.1.length) (id : Int) (s : Vx) (c : Nat) (hc : c < s.2.1.length) (h1 : s.2.1.length ≤ 40) (out : List wO) (hf : out.length ≤ 100000) : ∀ (d jj j : Nat) (y : Bool), jj + d = o →
  Ws k (d + 1 + j) (o : Int) id (c : Int) y (jj : Int) b out s = v6 k j (o : Int) id ((c + 1 : Nat) : Int) b (out ++ (bif (y || inO (s.2.1.getD c I.dflt) ((b.2.2.2.2.2.2.2.2.2.2.2.2.2.2.2.1.drop jj).take d)) then [(5, id, 6)] else [])) s := by
 have hO := g.bOrders
 have c3 : (0 : Int) ≤ (c : Int) := by omega
 have c4 : (c : Int) < (s.2.1.length : Int) := by omega
 intro d
 induction d with
 | zero =>
  intro jj j y hi
  rw [show 0 + 1 + j = j + 1 by omega, Ws, qx (by omega : ¬ (jj : Int) < (o : Int)), qg, List.take_zero, qF c (by omega), qd (by simp only [qk]; omega)]
  cases y
  ·show _ = v6 k j (o : Int) id ((c + 1 : Nat) : Int) b (out ++ []) s
   rw [qg, qY]
  ·rfl
 | succ d ih =>
  intro jj j y hi
  have h3 : (0 : Int) ≤ (jj : Int) := by omega
  have h4 : (jj : Int) < (b.2.2.2.2.2.2.2.2.2.2.2.2.2.2.2.1.length : Int) := by omega
  have hm := (g.ord _ (Vh (b.2.2.2.2.2.2.2.2.2.2.2.2.2.2.2.1) jj T9.dflt (by omega))).1
  obtain ⟨a1, a2⟩ := qEW k (b.2.2.2.2.2.2.2.2.2.2.2.2.2.2.2.1.getD jj T9.dflt).2.1 (s.2.1.getD c I.dflt) (by omega) (by omega)
  have hrw : b.2.2.2.2.2.2.2.2.2.2.2.2.2.2.2.1.drop jj = b.2.2.2.2.2.2.2.2.2.2.2.2.2.2.2.1.getD jj T9.dflt :: b.2.2.2.2.2.2.2.2.2.2.2.2.2.2.2.1.drop (jj + 1) := qq (b.2.2.2.2.2.2.2.2.2.2.2.2.2.2.2.1) jj T9.dflt (by omega)
  rw [show d + 1 + 1 + j = (d + 1 + j) + 1 by omega, Ws, qA (by omega : (jj : Int) < (o : Int)), qi, qd ⟨h3, h4⟩, qc, qc, a1, a2, qF jj (by omega), hrw, List.take_succ_cons]
  cases y
  ·rw [qg, qd ⟨rfl, c3, c4, rfl⟩, ih (jj + 1) j _ (by omega), zn, zn]; rfl
  ·rw [qi, qd rfl, ih (jj + 1) j _ (by omega), zX, zX]
theorem qNQ (k : Nat) (hk : 1000 ≤ k) (b : T17.T) (g : GB b) (o : Nat) (ho : o ≤ b.2.2.2.2.2.2.2.2.2.2.2.2.2.2.2.1.length) (id : Int) (s : Vx) (h1 : s.2.1.length ≤ 40) (h2 : s.2.2.1.length ≤ 40) : ∀ (d c j : Nat) (out : List wO), c + d = s.2.1.length → d * 50 + 100 < j → out.length + d ≤ 90000 →
  v6 k j (o : Int) id (c : Int) b out s = some (out ++ (Xm id (tkR (b.2.2.2.2.2.2.2.2.2.2.2.2.2.2.2.1.take o)) (s.2.1.take c) (s.2.1.drop c) ++ Vi id s.2.1 [] s.2.2.1)) := by
 have hO := g.bOrders
 intro d
 induction d with
 | zero =>
  intro c j out hc hj hf
  obtain ⟨j, rfl⟩ := qQ (by omega : 0 < j)
  have h23 := qQ1 k hk id s h1 h2 s.2.2.1.length 0 j out (by omega) (by omega) (by omega)
  rw [show ((0 : Nat) : Int) = 0 from rfl, List.take_zero, wm] at h23
  rw [v6, qx (by omega : ¬ (c : Int) < (s.2.1.length : Int)), qg, h23, qh (by omega : s.2.1.length ≤ c), Xm, qH]
 | succ d ih =>
  intro c j out hc hj hf
  rw [qTX] at hj
  generalize hz : d * 50 = z at *
  obtain ⟨j, rfl⟩ : ∃ q, j = (o + 1 + q) + 1 := ⟨j - o - 2, by omega⟩
  have htk : s.2.1.take (c + 1) = s.2.1.take c ++ [s.2.1.getD c I.dflt] := wU s.2.1 c I.dflt (by omega)
  have b1 := qm7 k s.2.1 (s.2.1.getD c I.dflt) c (by omega) (by omega) (by omega)
  have b2 := qq3 k s.2.1 (s.2.1.getD c I.dflt) c (by omega) (by omega) (by omega)
  have h16 := qNn k hk b g o ho id s c (by omega) h1 out (by omega) o 0 j (wj (s.2.1.getD c I.dflt) (s.2.1.take c)) (by omega)
  rw [show ((0 : Nat) : Int) = 0 from rfl, wm, ← qC6, Bool.or_comm] at h16
  rw [v6, qA (by omega : (c : Int) < (s.2.1.length : Int)), qi, qc, b1, b2, qd ⟨by omega, by omega, rfl⟩, h16, ih (c + 1) j _ (by omega) (by omega) (by
   rw [qn]
   cases (wj (s.2.1.getD c I.dflt) (tkR (b.2.2.2.2.2.2.2.2.2.2.2.2.2.2.2.1.take o)) || wj (s.2.1.getD c I.dflt) (s.2.1.take c)) <;> simp <;> omega), qq s.2.1 c I.dflt (by omega), Xm, htk, qw, qw]
theorem qSg (k : Nat) (hk : 5000 ≤ k) (b : T17.T) (g : GB b) (o : Nat) (ho : o < b.2.2.2.2.2.2.2.2.2.2.2.2.2.2.2.1.length) : qeX k b (o : Int) = some (hdS (b.2.2.2.2.2.2.2.2.2.2.2.2.2.2.2.1.getD o T9.dflt) ++ (Xm (b.2.2.2.2.2.2.2.2.2.2.2.2.2.2.2.1.getD o T9.dflt).1.1 (tkR (b.2.2.2.2.2.2.2.2.2.2.2.2.2.2.2.1.take o)) [] (b.2.2.2.2.2.2.2.2.2.2.2.2.2.2.2.1.getD o T9.dflt).2.1 ++ Vi (b.2.2.2.2.2.2.2.2.2.2.2.2.2.2.2.1.getD o T9.dflt).1.1 (b.2.2.2.2.2.2.2.2.2.2.2.2.2.2.2.1.getD o T9.dflt).2.1 [] (b.2.2.2.2.2.2.2.2.2.2.2.2.2.2.2.1.getD o T9.dflt).2.2.1)) := by
 have hO := g.bOrders
 obtain ⟨m1, m2⟩ := g.ord _ (Vh (b.2.2.2.2.2.2.2.2.2.2.2.2.2.2.2.1) o T9.dflt ho)
 unfold qeX
 rw [qd ⟨by omega, by omega⟩, qc]
 generalize hs : b.2.2.2.2.2.2.2.2.2.2.2.2.2.2.2.1.getD o T9.dflt = s at *
 rw [qkG, qrJ, qb, qd rfl, qd (by simp only [qk]; omega)]
 have t11 : ∀ (F : List wO) (J : Nat), F.length ≤ 10 → 4000 < J → Xj k J (o : Int) s.1.1 b F s = some (F ++ (Xm s.1.1 (tkR (b.2.2.2.2.2.2.2.2.2.2.2.2.2.2.2.1.take o)) [] s.2.1 ++ Vi s.1.1 s.2.1 [] s.2.2.1)) := fun F J hF hJ => by
  obtain ⟨J, rfl⟩ := qQ (by omega : 0 < J)
  have h := qNQ k (by omega) b g o (by omega) s.1.1 s m1 m2 s.2.1.length 0 J F (by omega) (by omega) (by omega)
  rw [show ((0 : Nat) : Int) = 0 from rfl, List.take_zero, wm] at h
  rw [Xj, h]
 have t9 : ∀ (F : List wO) (J : Nat) (e : Int), F.length ≤ 5 → 4001 < J → YI k J (o : Int) s.1.1 e b F s = some (F ++ ((bif e == 0 then hdC s else []) ++ (Xm s.1.1 (tkR (b.2.2.2.2.2.2.2.2.2.2.2.2.2.2.2.1.take o)) [] s.2.1 ++ Vi s.1.1 s.2.1 [] s.2.2.1))) := fun F J e hF hJ => by
  obtain ⟨J, rfl⟩ := qQ (by omega : 0 < J)
  rw [YI, qd (by simp only [qk]; omega), Bool.and_assoc]
  unfold hdC
  cases (e == (0 : Int))
  ·rw [wD, qg, qg, t11 F J (by omega) (by omega), qH]
  ·rw [ww, qi]
   cases (s.2.2.2 && decide ((s.2.2.1.length : Int) < qa .i64 (s.1.2.2.2.2.2.2.1 - s.1.2.2.2.2.2.2.2.2.1)))
   ·rw [qg, qg, t11 F J (by omega) (by omega), qH]
   ·rw [qi, qi, t11 _ J (by rw [qn, qk]; omega) (by omega), qw]
 have t7 : ∀ (F : List wO) (e : Int), F.length ≤ 2 → Yj k k (o : Int) s.1.1 e b F s = some (F ++ ((bif e == 0 then hdB s ++ hdC s else []) ++ (Xm s.1.1 (tkR (b.2.2.2.2.2.2.2.2.2.2.2.2.2.2.2.1.take o)) [] s.2.1 ++ Vi s.1.1 s.2.1 [] s.2.2.1))) := fun F e hF => by
  obtain ⟨J, hJ⟩ : ∃ q, k = q + 1 := ⟨k - 1, by omega⟩
  conv => lhs; arg 2; rw [hJ]
  rw [Yj, qd (by simp only [qk]; omega)]
  unfold hdB
  cases he : (e == (0 : Int))
  ·rw [wD, qg, qg, t9 F J e (by omega) (by omega), he, qg, qH]
  ·rw [ww, qi]
   cases decide ((s.2.1.length : Int) > qa .i64 (s.1.2.2.2.2.2.2.1 + s.1.2.2.2.2.2.2.2.1))
   ·rw [qg, qg, t9 F J e (by omega) (by omega), he, qi, qH]
   ·rw [qi, qi, t9 _ J e (by rw [qn, qk]; omega) (by omega), he, qi, qw, qw]
 unfold hdS
 cases he : (Q4 s.1 != (0 : Int))
 ·have he' : (Q4 s.1 == (0 : Int)) = true := by
   have : Q4 s.1 = 0 := by simpa using he
   rw [this]; rfl
  rw [qg, qg, t7 [] _ (by simp), he', qi, qH]
 ·have he' : (Q4 s.1 == (0 : Int)) = false := by
   have : Q4 s.1 ≠ 0 := by simpa using he
   exact beq_eq_false_iff_ne.2 this
  rw [qi, qi, t7 _ _ (by simp), he', qg, qH]
theorem qB6 (x : Int) : ∀ l : List vr, wj x (shR l) = qjL x l
 | [] => rfl
 | s :: t => by
  rw [shR, qtV, qB6 x t]; rfl
theorem qGJ (k : Nat) (hk : 3000 ≤ k) (l : List vr) (hl : l.length ≤ 40) (hr : ∀ s ∈ l, s.2.2.length ≤ 40) (x : Int) (he : Zn l = 0) : (qby k l x).isSome = true ∧ ((qeC k l x).2 != (0 : Int)) = !wj x (shR l) := by
 obtain ⟨n, hn⟩ := qFt k hk l hl hr x he
 have hv : qeC k l x = (n, bif qjL x l then 0 else 7) := by unfold qeC; rw [hn]; rfl
 rw [hn, hv, qB6]
 refine ⟨rfl, ?_⟩
 cases qjL x l <;> rfl
theorem qTe (k : Nat) (hk : 3000 ≤ k) (b : T17.T) (g : GB b) (he : Zn (b.2.2.2.2.2.2.2.2.2.2.2.2.2.2.2.2.2.1) = 0) (n : Int) (m : List Int) (hm : m.length ≤ 40) : ∀ (d i j : Nat) (out : List wO), i + d = m.length → out.length + d ≤ 100000 →
  Wr k (d + 1 + j) n m (i : Int) b out = Wh k j (qa .i64 (n + 1)) b (out ++ msR (shR (b.2.2.2.2.2.2.2.2.2.2.2.2.2.2.2.2.2.1)) (m.drop i)) := by
 have hS := g.bShipments
 intro d
 induction d with
 | zero =>
  intro i j out hi hf
  rw [show 0 + 1 + j = j + 1 by omega, Wr, qx (by omega : ¬ (i : Int) < (m.length : Int)), qg, qh (by omega), msR, qY]
 | succ d ih =>
  intro i j out hi hf
  obtain ⟨a1, a2⟩ := qGJ k hk (b.2.2.2.2.2.2.2.2.2.2.2.2.2.2.2.2.2.1) hS g.shp (m.getD i I.dflt) he
  have h3 : (0 : Int) ≤ (i : Int) := by omega
  have h4 : (i : Int) < (m.length : Int) := by omega
  rw [show d + 1 + 1 + j = (d + 1 + j) + 1 by omega, Wr, qA h4, qi, qc, a1, a2, qd ⟨h3, h4, rfl⟩, qd ⟨h3, h4, by simp only [qk]; omega⟩, qF i (by omega), qq m i I.dflt (by omega), msR]
  cases wj (m.getD i I.dflt) (shR (b.2.2.2.2.2.2.2.2.2.2.2.2.2.2.2.2.2.1))
  ·rw [qd1, qi, qi, ih (i + 1) j _ (by omega) (by rw [qn, qk]; omega), qw]
  ·rw [vB, qg, qg, ih (i + 1) j _ (by omega) (by omega), qH]
theorem qSY (k : Nat) (hk : 3000 ≤ k) (b : T17.T) (g : GB b) (he : Zn (b.2.2.2.2.2.2.2.2.2.2.2.2.2.2.2.2.2.1) = 0) : ∀ (d i j : Nat) (out : List wO), i + d = b.2.2.2.2.2.2.2.2.2.2.2.2.2.2.2.1.length → d * 50 < j → out.length + d * 50 ≤ 50000 →
  Wh k j (i : Int) b out = some (out ++ msO (shR (b.2.2.2.2.2.2.2.2.2.2.2.2.2.2.2.2.2.1)) (b.2.2.2.2.2.2.2.2.2.2.2.2.2.2.2.1.drop i), 0) := by
 have hO := g.bOrders
 intro d
 induction d with
 | zero =>
  intro i j out hi hj hf
  obtain ⟨j, rfl⟩ := qQ (by omega : 0 < j)
  rw [Wh, qx (by omega : ¬ (i : Int) < (b.2.2.2.2.2.2.2.2.2.2.2.2.2.2.2.1.length : Int)), qg, qh (by omega : b.2.2.2.2.2.2.2.2.2.2.2.2.2.2.2.1.length ≤ i), msO, qY]
 | succ d ih =>
  intro i j out hi hj hf
  rw [qTX] at hj hf
  have hm := (g.ord _ (Vh (b.2.2.2.2.2.2.2.2.2.2.2.2.2.2.2.1) i T9.dflt (by omega))).2
  have hrw : b.2.2.2.2.2.2.2.2.2.2.2.2.2.2.2.1.drop i = b.2.2.2.2.2.2.2.2.2.2.2.2.2.2.2.1.getD i T9.dflt :: b.2.2.2.2.2.2.2.2.2.2.2.2.2.2.2.1.drop (i + 1) := qq (b.2.2.2.2.2.2.2.2.2.2.2.2.2.2.2.1) i T9.dflt (by omega)
  generalize hz : d * 50 = z at *
  obtain ⟨j, rfl⟩ : ∃ q, j = ((b.2.2.2.2.2.2.2.2.2.2.2.2.2.2.2.1.getD i T9.dflt).2.2.1.length + 1 + q) + 1 := ⟨j - (b.2.2.2.2.2.2.2.2.2.2.2.2.2.2.2.1.getD i T9.dflt).2.2.1.length - 2, by omega⟩
  have h := qTe k hk b g he (i : Int) (b.2.2.2.2.2.2.2.2.2.2.2.2.2.2.2.1.getD i T9.dflt).2.2.1 hm (b.2.2.2.2.2.2.2.2.2.2.2.2.2.2.2.1.getD i T9.dflt).2.2.1.length 0 j out (by omega) (by omega)
  rw [show ((0 : Nat) : Int) = 0 from rfl, wm] at h
  have hml := qi1 (shR (b.2.2.2.2.2.2.2.2.2.2.2.2.2.2.2.2.2.1)) (b.2.2.2.2.2.2.2.2.2.2.2.2.2.2.2.1.getD i T9.dflt).2.2.1
  rw [Wh, qA (by omega : (i : Int) < (b.2.2.2.2.2.2.2.2.2.2.2.2.2.2.2.1.length : Int)), qi, qd ⟨by omega, by omega⟩, qc, h, qF i (by omega), ih (i + 1) j _ (by omega) (by omega) (by rw [qn]; omega), hrw, msO, qw]
theorem qTh (k : Nat) (hk : 301000 ≤ k) (b : T17.T) (g : GB b) (n : Int) (m : List Int) (hm : m.length ≤ 40) : ∀ (d i j : Nat) (out : List wO), i + d = m.length → out.length + d ≤ 100000 →
  z6 k (d + 1 + j) n m (i : Int) b out = vU k j (qa .i64 (n + 1)) b (out ++ Vb b (m.drop i)) := by
 have hw := g.bWaivers
 have hO := g.bOrders
 intro d
 induction d with
 | zero =>
  intro i j out hi hf
  rw [show 0 + 1 + j = j + 1 by omega, z6, qx (by omega : ¬ (i : Int) < (m.length : Int)), qg, qh (by omega), Vb, qY]
 | succ d ih =>
  intro i j out hi hf
  have h3 : (0 : Int) ≤ (i : Int) := by omega
  have h4 : (i : Int) < (m.length : Int) := by omega
  have hrw : m.drop i = m.getD i I.dflt :: m.drop (i + 1) := qq m i I.dflt (by omega)
  have hgs : qbV k (b.2.2.2.2.2.2.2.2.2.2.2.1, (b.2.1, b.2.2.1), b.2.2.2.2.2.2.2.2.2.1, b.2.2.2.2.2.2.2.2.2.2.2.2.2.2.1, b.2.2.2.2.2.2.2.1, b.2.2.2.2.2.1) (m.getD i I.dflt) = some (QI b (m.getD i I.dflt)) := qeM k hk (b.2.2.2.2.2.2.2.2.2.2.2.1) (b.2.1) (b.2.2.1) (b.2.2.2.2.2.2.2.2.2.1) (b.2.2.2.2.2.2.2.2.2.2.2.2.2.2.1) (b.2.2.2.2.2.2.2.1) (b.2.2.2.2.2.1) (m.getD i I.dflt)
  have hgv : Q9 k (b.2.2.2.2.2.2.2.2.2.2.2.1, (b.2.1, b.2.2.1), b.2.2.2.2.2.2.2.2.2.1, b.2.2.2.2.2.2.2.2.2.2.2.2.2.2.1, b.2.2.2.2.2.2.2.1, b.2.2.2.2.2.1) (m.getD i I.dflt) = QI b (m.getD i I.dflt) := qoU k hk (b.2.2.2.2.2.2.2.2.2.2.2.1) (b.2.1) (b.2.2.1) (b.2.2.2.2.2.2.2.2.2.1) (b.2.2.2.2.2.2.2.2.2.2.2.2.2.2.1) (b.2.2.2.2.2.2.2.1) (b.2.2.2.2.2.1) (m.getD i I.dflt)
  have hrs : qif k b = some (b.2.2.2.2.2.2.2.2.2.2.2.1, (b.2.1, b.2.2.1), b.2.2.2.2.2.2.2.2.2.1, b.2.2.2.2.2.2.2.2.2.2.2.2.2.2.1, b.2.2.2.2.2.2.2.1, b.2.2.2.2.2.1) := rfl
  have hrv : WO k b = (b.2.2.2.2.2.2.2.2.2.2.2.1, (b.2.1, b.2.2.1), b.2.2.2.2.2.2.2.2.2.1, b.2.2.2.2.2.2.2.2.2.2.2.2.2.2.1, b.2.2.2.2.2.2.2.1, b.2.2.2.2.2.1) := rfl
  have key : ∀ F : List wO, F.length ≤ out.length + 1 → z6 k (d + 1 + j) n m ((i + 1 : Nat) : Int) b F = vU k j (qa .i64 (n + 1)) b (F ++ Vb b (m.drop (i + 1))) := fun F hF => ih (i + 1) j F (by omega) (by omega)
  have hLI := qzE (m.getD i I.dflt) (b.2.2.2.2.2.2.2.2.2.2.2.2.2.2.2.1) 0
  rw [show d + 1 + 1 + j = (d + 1 + j) + 1 by omega, z6, qA h4, qi, qc, qpE k (by omega) b g, qAy k (by omega) b g, qd ⟨h3, h4, rfl⟩, qF i (by omega), hrs, hrv, hgs, hgv, hrw, Vb]
  unfold qtT
  cases ho : qdI (m.getD i I.dflt) (b.2.2.2.2.2.2.2.2.2.2.2.2.2.2.2.1) 0 with
  | none =>
   rw [ho] at hLI
   have hL : Yw (m.getD i I.dflt) (b.2.2.2.2.2.2.2.2.2.2.2.2.2.2.2.1) = none := hLI
   rw [hL, show decide (qhN none < (0 : Int)) = true from rfl, qi, qd ⟨h3, h4, by simp only [qk]; omega⟩, key _ (by simp), qw]
  | some q =>
   rw [ho] at hLI
   obtain ⟨_, q2, q3⟩ := hLI
   rw [Nat.sub_zero] at q2 q3
   have e1 := qm1 k (by omega) (b.2.2.2.2.2.2.2.2.2.2.2.2.2.2.2.1.getD q T9.dflt).1 (QI b (m.getD i I.dflt)).1 (m.getD i I.dflt) (b.2.2.2.2.2.2.2.2.2.2.2.2.2.2.2.2.1) hw
   have e2 := qxE k (by omega) (b.2.2.2.2.2.2.2.2.2.2.2.2.2.2.2.1.getD q T9.dflt).1 (QI b (m.getD i I.dflt)).1 (m.getD i I.dflt) (b.2.2.2.2.2.2.2.2.2.2.2.2.2.2.2.2.1) hw
   have n1 : (0 : Int) ≤ qhN (some q) := by show (0 : Int) ≤ (q : Int); omega
   have n2 : qhN (some q) < (b.2.2.2.2.2.2.2.2.2.2.2.2.2.2.2.1.length : Int) := by show (q : Int) < _; omega
   have n3 : (qhN (some q)).toNat = q := rfl
   rw [q3, qx (by omega : ¬ qhN (some q) < 0), qg, qd ⟨rfl, h3, h4, rfl⟩, n3, e1, e2]
   show _ = vU k j (qa .i64 (n + 1)) b (out ++ ((bif qgj b (b.2.2.2.2.2.2.2.2.2.2.2.2.2.2.2.1.getD q T9.dflt).1 (m.getD i I.dflt) != 0 then [(7, m.getD i I.dflt, qgj b (b.2.2.2.2.2.2.2.2.2.2.2.2.2.2.2.1.getD q T9.dflt).1 (m.getD i I.dflt))] else []) ++ Vb b (m.drop (i + 1))))
   unfold qgj
   cases hz : ((QI b (m.getD i I.dflt)).2 == (0 : Int))
   ·have hz' : ((QI b (m.getD i I.dflt)).2 != (0 : Int)) = true := by rw [bne, hz]; rfl
    rw [qg, qg, hz', qi, qi, qd ⟨h3, h4, by simp only [qk]; omega⟩, key _ (by simp), qw]
   ·rw [qi, qi, qd ⟨n1, n2, h3, h4, rfl⟩]
    cases (qf5 (b.2.2.2.2.2.2.2.2.2.2.2.2.2.2.2.1.getD q T9.dflt).1 (QI b (m.getD i I.dflt)).1 (m.getD i I.dflt) (b.2.2.2.2.2.2.2.2.2.2.2.2.2.2.2.2.1) != (0 : Int))
    ·rw [qg, qg, key _ (by omega), qH]
    ·rw [qi, qi, qd ⟨h3, h4, by simp only [qk]; omega⟩, key _ (by simp), qw]
theorem qSQ (k : Nat) (hk : 301000 ≤ k) (b : T17.T) (g : GB b) (he : Zn (b.2.2.2.2.2.2.2.2.2.2.2.2.2.2.2.2.2.1) = 0) : ∀ (d i j : Nat) (out : List wO), i + d = b.2.2.2.2.2.2.2.2.2.2.2.2.2.2.2.2.2.1.length → d * 50 + 3000 < j → out.length + d * 50 ≤ 40000 →
  vU k j (i : Int) b out = some (out ++ (Vq b (b.2.2.2.2.2.2.2.2.2.2.2.2.2.2.2.2.2.1.drop i) ++ msO (shR (b.2.2.2.2.2.2.2.2.2.2.2.2.2.2.2.2.2.1)) (b.2.2.2.2.2.2.2.2.2.2.2.2.2.2.2.1)), 0) := by
 have hO := g.bOrders
 have hS := g.bShipments
 intro d
 induction d with
 | zero =>
  intro i j out hi hj hf
  obtain ⟨j, rfl⟩ := qQ (by omega : 0 < j)
  rw [vU, qx (by omega : ¬ (i : Int) < (b.2.2.2.2.2.2.2.2.2.2.2.2.2.2.2.2.2.1.length : Int)), qg, qh (by omega : b.2.2.2.2.2.2.2.2.2.2.2.2.2.2.2.2.2.1.length ≤ i), Vq, qH]
  have := qSY k (by omega) b g he (b.2.2.2.2.2.2.2.2.2.2.2.2.2.2.2.1.length) 0 j out (by omega) (by omega) (by omega)
  exact this
 | succ d ih =>
  intro i j out hi hj hf
  rw [qTX] at hj hf
  have hm := g.shp _ (Vh (b.2.2.2.2.2.2.2.2.2.2.2.2.2.2.2.2.2.1) i T11.dflt (by omega))
  have hrw : b.2.2.2.2.2.2.2.2.2.2.2.2.2.2.2.2.2.1.drop i = b.2.2.2.2.2.2.2.2.2.2.2.2.2.2.2.2.2.1.getD i T11.dflt :: b.2.2.2.2.2.2.2.2.2.2.2.2.2.2.2.2.2.1.drop (i + 1) := qq (b.2.2.2.2.2.2.2.2.2.2.2.2.2.2.2.2.2.1) i T11.dflt (by omega)
  generalize hz : d * 50 = z at *
  obtain ⟨j, rfl⟩ : ∃ q, j = ((b.2.2.2.2.2.2.2.2.2.2.2.2.2.2.2.2.2.1.getD i T11.dflt).2.2.length + 1 + q) + 1 := ⟨j - (b.2.2.2.2.2.2.2.2.2.2.2.2.2.2.2.2.2.1.getD i T11.dflt).2.2.length - 2, by omega⟩
  have h := qTh k hk b g (i : Int) (b.2.2.2.2.2.2.2.2.2.2.2.2.2.2.2.2.2.1.getD i T11.dflt).2.2 hm (b.2.2.2.2.2.2.2.2.2.2.2.2.2.2.2.2.2.1.getD i T11.dflt).2.2.length 0 j out (by omega) (by omega)
  rw [show ((0 : Nat) : Int) = 0 from rfl, wm] at h
  have hml := qcH b (b.2.2.2.2.2.2.2.2.2.2.2.2.2.2.2.2.2.1.getD i T11.dflt).2.2
  rw [vU, qA (by omega : (i : Int) < (b.2.2.2.2.2.2.2.2.2.2.2.2.2.2.2.2.2.1.length : Int)), qi, qd ⟨by omega, by omega⟩, qc, h, qF i (by omega), ih (i + 1) j _ (by omega) (by omega) (by rw [qn]; omega), hrw, Vq, qw, qw]
theorem R_6 (k : Nat) (hk : 301000 ≤ k) (b : T17.T) (g : GB b) : ∀ (d i j : Nat) (out : List wO), i + d = b.2.2.2.2.2.2.2.2.2.2.2.2.2.2.2.1.length → d + 6000 < j → out.length + d * 200 ≤ 15000 →
  V4 k j (i : Int) b out = some (out ++ (qaQ (tkR (b.2.2.2.2.2.2.2.2.2.2.2.2.2.2.2.1.take i)) (b.2.2.2.2.2.2.2.2.2.2.2.2.2.2.2.1.drop i) ++ qad b), 0) := by
 have hO := g.bOrders
 have hS := g.bShipments
 intro d
 induction d with
 | zero =>
  intro i j out hi hj hf
  obtain ⟨j, rfl⟩ := qQ (by omega : 0 < j)
  rw [V4, qx (by omega : ¬ (i : Int) < (b.2.2.2.2.2.2.2.2.2.2.2.2.2.2.2.1.length : Int)), qg, qh (by omega : b.2.2.2.2.2.2.2.2.2.2.2.2.2.2.2.1.length ≤ i), qaQ, qH, qpi k (by omega) _ hS g.shp, qvD k (by omega) _ hS g.shp, qb, qd rfl]
  have q0 : b.2.2.2.2.2.2.2.2.2.2.2.2.2.2.2.2.2.1.length * 50 ≤ 2000 := vT 50 hS
  have q3 : out.length + 2000 ≤ 40000 := by clear q0 hS; omega
  have q4 : 2000 + 3000 < j := by clear q0 hS q3; omega
  have q1 : b.2.2.2.2.2.2.2.2.2.2.2.2.2.2.2.2.2.1.length * 50 + 3000 < j := Nat.lt_of_le_of_lt (Nat.add_le_add_right q0 3000) q4
  have q2 : out.length + b.2.2.2.2.2.2.2.2.2.2.2.2.2.2.2.2.2.1.length * 50 ≤ 40000 := Nat.le_trans (Nat.add_le_add_left q0 _) q3
  unfold qad
  cases h : (Zn (b.2.2.2.2.2.2.2.2.2.2.2.2.2.2.2.2.2.1) != 0)
  ·have he : Zn (b.2.2.2.2.2.2.2.2.2.2.2.2.2.2.2.2.2.1) = 0 := by simpa using h
   have h13 := qSQ k hk b g he (b.2.2.2.2.2.2.2.2.2.2.2.2.2.2.2.2.2.1.length) 0 j out (Yd _) q1 q2
   rw [show ((0 : Nat) : Int) = 0 from rfl, wm] at h13
   rw [qg, qg, h13]
  ·rw [qi, qi, qd (by simp only [qk]; omega)]
 | succ d ih =>
  intro i j out hi hj hf
  rw [qTX] at hf
  obtain ⟨m1, m2⟩ := g.ord _ (Vh (b.2.2.2.2.2.2.2.2.2.2.2.2.2.2.2.1) i T9.dflt (by omega))
  have hrw : b.2.2.2.2.2.2.2.2.2.2.2.2.2.2.2.1.drop i = b.2.2.2.2.2.2.2.2.2.2.2.2.2.2.2.1.getD i T9.dflt :: b.2.2.2.2.2.2.2.2.2.2.2.2.2.2.2.1.drop (i + 1) := qq (b.2.2.2.2.2.2.2.2.2.2.2.2.2.2.2.1) i T9.dflt (by omega)
  have htk : b.2.2.2.2.2.2.2.2.2.2.2.2.2.2.2.1.take (i + 1) = b.2.2.2.2.2.2.2.2.2.2.2.2.2.2.2.1.take i ++ [b.2.2.2.2.2.2.2.2.2.2.2.2.2.2.2.1.getD i T9.dflt] := wU (b.2.2.2.2.2.2.2.2.2.2.2.2.2.2.2.1) i T9.dflt (by omega)
  have h1 := qSg k (by omega) b g i (by omega)
  have hv : qe8 k b (i : Int) = hdS (b.2.2.2.2.2.2.2.2.2.2.2.2.2.2.2.1.getD i T9.dflt) ++ (Xm (b.2.2.2.2.2.2.2.2.2.2.2.2.2.2.2.1.getD i T9.dflt).1.1 (tkR (b.2.2.2.2.2.2.2.2.2.2.2.2.2.2.2.1.take i)) [] (b.2.2.2.2.2.2.2.2.2.2.2.2.2.2.2.1.getD i T9.dflt).2.1 ++ Vi (b.2.2.2.2.2.2.2.2.2.2.2.2.2.2.2.1.getD i T9.dflt).1.1 (b.2.2.2.2.2.2.2.2.2.2.2.2.2.2.2.1.getD i T9.dflt).2.1 [] (b.2.2.2.2.2.2.2.2.2.2.2.2.2.2.2.1.getD i T9.dflt).2.2.1) := by unfold qe8; rw [h1]; rfl
  have ha := qoP (b.2.2.2.2.2.2.2.2.2.2.2.2.2.2.2.1.getD i T9.dflt)
  have hb := qej (b.2.2.2.2.2.2.2.2.2.2.2.2.2.2.2.1.getD i T9.dflt).1.1 (tkR (b.2.2.2.2.2.2.2.2.2.2.2.2.2.2.2.1.take i)) (b.2.2.2.2.2.2.2.2.2.2.2.2.2.2.2.1.getD i T9.dflt).2.1 []
  have hc := qj7 (b.2.2.2.2.2.2.2.2.2.2.2.2.2.2.2.1.getD i T9.dflt).1.1 (b.2.2.2.2.2.2.2.2.2.2.2.2.2.2.2.1.getD i T9.dflt).2.1 (b.2.2.2.2.2.2.2.2.2.2.2.2.2.2.2.1.getD i T9.dflt).2.2.1 []
  generalize hz : d * 200 = z at *
  obtain ⟨j, rfl⟩ := qQ (by omega : 0 < j)
  rw [V4, qA (by omega : (i : Int) < (b.2.2.2.2.2.2.2.2.2.2.2.2.2.2.2.1.length : Int)), qi, h1, hv, qd ⟨rfl, by rw [qn, qn]; omega⟩, qF i (by omega), ih (i + 1) j _ (by omega) (by omega) (by rw [qn, qn, qn]; omega), hrw, qaQ, htk, qvC]
  have e : tkR [b.2.2.2.2.2.2.2.2.2.2.2.2.2.2.2.1.getD i T9.dflt] = (b.2.2.2.2.2.2.2.2.2.2.2.2.2.2.2.1.getD i T9.dflt).2.1 := qY _
  rw [e]
  simp only [qw]
theorem qpn (k : Nat) (hk : 301000 ≤ k) (b : T17.T) (g : GB b) : qe5 k b = some (zB b, 0) := by
 have hO := g.bOrders
 unfold qe5 zB
 rw [qD9 k (by omega) b g, qOI k (by omega) b g, qb, qd rfl, bne_self_eq_false, qg]
 have := R_6 k hk b g (b.2.2.2.2.2.2.2.2.2.2.2.2.2.2.2.1.length) 0 k [] (by omega) (by omega) (by simp; omega)
 exact this
theorem qzL (k : Nat) (hk : 301000 ≤ k) (b : T17.T) (g : GB b) : QF k b = (zB b, 0) := by
 unfold QF; rw [qpn k hk b g]; rfl
theorem qsQ (k : Nat) (hk : 301000 ≤ k) (b : T17.T) (g : GB b) : qoE k b = some (zB b, 0) := by
 have h1 : qi0 k b = some (zB b, 0) := by
  unfold qi0
  have e1 : qss k b [] = some b := rfl
  have e2 : qr4 k b [] = b := rfl
  obtain ⟨k', rfl⟩ : ∃ q, k = q + 2 := ⟨k - 2, by omega⟩
  rw [qAL _ (by omega) b g, qOW _ (by omega) b g, e1, e2, qb, qd rfl, qg, qb, qd rfl]
  rw [qag, qd ⟨by omega, by decide⟩, quk _ hk b g [] (by simp), qFy _ hk b g [] (by simp), qb, qd rfl, YU]
  rfl
 unfold qoE
 rw [show qi3 k b = (zB b, 0) by unfold qi3; rw [h1]; rfl, h1, qb, qd rfl]
theorem qFn (k : Nat) (hk : 301000 ≤ k) (b : T17.T) (g : GB b) : XG k b = (zB b, 0) := by
 unfold XG; rw [qsQ k hk b g]; rfl
theorem qu2 (sent : List Int) : ∀ l : List Vx, (∀ s ∈ l, s.2.2.1.length ≤ 40) → (msO sent l).length ≤ l.length * 40
 | [], _ => z8 _
 | s :: t, h => by
  have h1 := qi1 sent s.2.2.1
  have h2 := h s (by simp)
  have h3 := qu2 sent t (fun x hx => h x (by simp [hx]))
  rw [msO, qn, wc, qTX]
  omega
theorem qmQ (b : T17.T) : ∀ l : List vr, (∀ s ∈ l, s.2.2.length ≤ 40) → (Vq b l).length ≤ l.length * 40
 | [], _ => z8 _
 | s :: t, h => by
  have h1 := qcH b s.2.2
  have h2 := h s (by simp)
  have h3 := qmQ b t (fun x hx => h x (by simp [hx]))
  rw [Vq, qn, wc, qTX]
  omega
theorem qub : ∀ (l : List Vx) (tk : List Int), (∀ s ∈ l, s.2.1.length ≤ 40 ∧ s.2.2.1.length ≤ 40) → (qaQ tk l).length ≤ l.length * 200
 | [], _, _ => z8 _
 | s :: t, tk, h => by
  have h1 := qoP s
  have h2 := qej s.1.1 tk s.2.1 []
  have h3 := qj7 s.1.1 s.2.1 s.2.2.1 []
  obtain ⟨m1, m2⟩ := h s (by simp)
  have h4 := qub t (tk ++ s.2.1) (fun x hx => h x (by simp [hx]))
  rw [qaQ, qn, qn, qn, wc, qTX]
  omega
theorem quL (b : T17.T) (g : GB b) : (zB b).length ≤ 20000 := by
 have h1 := qub (b.2.2.2.2.2.2.2.2.2.2.2.2.2.2.2.1) [] g.ord
 have h2 := qu2 (shR (b.2.2.2.2.2.2.2.2.2.2.2.2.2.2.2.2.2.1)) (b.2.2.2.2.2.2.2.2.2.2.2.2.2.2.2.1) (fun s h => (g.ord s h).2)
 have h3 := qmQ b (b.2.2.2.2.2.2.2.2.2.2.2.2.2.2.2.2.2.1) g.shp
 have hO := g.bOrders
 have hS := g.bShipments
 unfold zB qad
 rw [qn]
 cases (Zn (b.2.2.2.2.2.2.2.2.2.2.2.2.2.2.2.2.2.1) != 0)
 ·rw [qg, qn]; omega
 ·rw [qi, qk]; omega
theorem qqu (k : Nat) (hk : 301000 ≤ k) (aw : qgA k = some true) (b : T17.T) (hw : Wf T17 b) : qyE k b = some true := by
 obtain ⟨r, h1, h2⟩ := qJv k (by omega) b hw
 have av : YT k = true := by unfold YT; rw [aw]; rfl
 have gv : qm2 k b = r := by unfold qm2; rw [h1]; rfl
 unfold qyE
 rw [h1, gv, aw, av, qb, qd rfl]
 cases r with
 | true => rfl
 | false =>
  have g := h2 rfl
  have hl := quL b g
  rw [qg, qsQ k hk b g, qFn k hk b g, qpn k hk b g, qzL k hk b g]
  show (if true = true then (if true = true then (bif ((0 : Int) == 0) then (bif (true && qa0 k (zB b) (zB b)) then (if (((0 : Int) == 0) = true) ∧ ((qcM k (zB b) (zB b)).isSome = true) ∧ ((true && qa0 k (zB b) (zB b)) = true) ∧ _ then _ else _) else _) else _) else _) else _) = _
  rw [qms k _ (by omega) (by omega), qyM k _ (by omega) (by omega)]
  rfl
end Go.AM
